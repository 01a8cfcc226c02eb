-- Written by ext (this session's own program): the row of the law plinthlaw25_TreeMakes, by RowKinds.
-- in short rows (short.py)
import Derived.Test.YtbmmddngadnofaaRows
import Derived.Test.YtbmmddngadnofaaFx29b
import Derived.Test.YtbmmddngadnofaaPureTreeMakes
import Derived.Test.YtbmmddngadnofaaAskTreeMakes
import Derived.Test.YtbmmddngadnofaaRowKinds
import Derived.WalkKit
import Derived.ProofKit
import Derived.OpenShut
import Derived.ShutString
import Derived.ChangeOld
import Derived.Below
import Derived.Carry
import Derived.SizedLaws
namespace Go.Proofs.Ytbmmddngadnofaa.treeMakes
open Go.ChangeShapes Go.WideShapes Go.ChangeAt Go.RowKit Go.Proofs.Ytbmmddngadnofaa.RowKinds Go.Proofs.Ytbmmddngadnofaa.F Go.Proofs.YtbmmddngadnofaaW.PrintWords
open Go.ChangeMaps (open_string shut_string)
set_option linter.unusedVariables false
theorem own : ownKnob Try.prog.godebug = none := by kernel_rfl
theorem laidOut : laidOutB Try.prog = true := by kernel_rfl
theorem opens0 : Opens Try.prog k39 39 (fun x => ((Lit.int .i64 x.f0).wf = true ∧ (Lit.int .i64 x.f1).wf = true ∧ (x.f2.length ≤ maxLen ∧ x.f2.length * 1 ≤ 140737488351232 ∧ ∀ x0_ ∈ x.f2, (Lit.int .u8 x0_).wf = true))) := (show Opens Try.prog k39 39 _ from opens_struct (fun x : S39 => (x.f0, x.f1, x.f2)) (fun p => (⟨p.1, p.2.1, p.2.2⟩ : S39)) (fun _ => rfl) Try.underlying39 (by kernel_rfl) (opensFs_cons (by rfl) (by kernel_rfl) (opens_int Try.underlying3) (opensFs_cons (by rfl) (by kernel_rfl) (opens_int Try.underlying3) (opensFs_one (by rfl) (by kernel_rfl) (opens_slice 5 1 Try.underlying37 (by kernel_rfl) (by kernel_rfl) (opens_int Try.underlying5))))))
theorem opens1 : Opens Try.prog (Kd.slice 25 (Kd.int .u32)) 40 (fun x => (x.length ≤ maxLen ∧ x.length * 4 ≤ 140737488351232 ∧ ∀ x0_ ∈ x, (Lit.int .u32 x0_).wf = true)) := (opens_slice 25 4 Try.underlying40 (by kernel_rfl) (by kernel_rfl) (opens_int Try.underlying25))
set_option maxRecDepth 100000 in
theorem lifted (os : Os) (started : os.Started) (H : Type) (enc : TypeId × Value → H) :
  ReturnsInHanded {} Try.checked os 4 .any (Rows.treeMakesSpec.pre6 enc Try.prog Try.f4 Rows.treeMakesRow.domain false) (Rows.treeMakesSpec.post enc Try.prog Try.f4 false true false false) := by
 refine returnsInHanded_of_change_sized (C := Try.checked) own started (by kernel_rfl) Try.func4
  (ChangeSpec.witness6 (enc := enc) (C := Try.checked) false ⟨#[], #[.agg #[.int .i64 0, .int .i64 0, .slice none 0 0], .slice none 0 0], []⟩ 8 (by kernel_rfl) (by kernel_rfl) (by kernel_rfl) (by kernel_rfl)) ?_
 intro W base args ds gs before hval0 hW hcnd hsz0 _
 have hsz : (DataW.weightsEach Try.prog (Try.f4.params.toList ++ Rows.treeMakesSpec.plain.varTypes Try.prog) (ds ++ gs)).all (· ≤ reachBytes) = true := hsz0
 have hval : ∀ (j : Nat) t v, Try.f4.params[j]? = some t → args[j]? = some v → Value.okWide Try.prog W .any base t v := hval0
 have hW' := hW
 obtain ⟨p, q, hA0, hV, rfl, hfz, hnd⟩ := hW
 have hA : DataW.TrodAll enc Try.prog W 0 (fun _ => true) true Try.f4.params.toList args.toList ds p := hA0
 rw [Try.params4] at hA hval hsz
 obtain ⟨v0, vs0, d0, ds0, p0, q0, hargs, rfl, rfl, h0, r0⟩ := trodAll_cons hA
 obtain ⟨v1, vs1, d1, ds1, p1, q1, rfl, rfl, rfl, h1, r1⟩ := trodAll_cons r0
 obtain ⟨rfl, rfl, rfl⟩ := trodAll_nil r1
 obtain rfl : args = #[v0, v1] := by cases args; simp_all
 obtain ⟨rfl, rfl⟩ := trodVars_none hV
 have k0 := h0
 have lt0 : ∀ x ∈ p0, x.block < W.heap.size := by obtain ⟨m, hm⟩ := k0; exact DataW.trod_lt m _ _ _ hm
 obtain ⟨x0, K0, w0⟩ := opens_arg opens0 hsz (j := 0) rfl rfl h0
 obtain ⟨cs0, rfl, _⟩ := okWide_struct Try.underlying39 (hval 0 39 v0 rfl rfl)
 obtain ⟨A0_2, c0_2, e0, hc0_2, hr0_2⟩ := k39_open K0
 obtain rfl : cs0 = #[.int .i64 x0.f0, .int .i64 x0.f1, .slice A0_2 x0.f2.length c0_2] := Array.ext' e0
 have k1 := h1
 have lt1 : ∀ x ∈ p1, x.block < W.heap.size := by obtain ⟨m, hm⟩ := k1; exact DataW.trod_lt m _ _ _ hm
 obtain ⟨x1, K1, w1⟩ := opens_arg opens1 hsz (j := 1) rfl rfl h1
 obtain ⟨a1, len1, cap1, rfl⟩ := okWide_slice Try.underlying40 (hval 1 40 v1 rfl rfl)
 obtain ⟨A1, c1, e1, hc1, hr1⟩ := K1
 obtain ⟨rfl, rfl, rfl⟩ : a1 = A1 ∧ len1 = x1.length ∧ cap1 = c1 := by simpa [Value.cells] using e1
 clear hA0 hval0 hsz0 hsz
 obtain ⟨k, h⟩ := Pure.TreeMakes x0 x1 w0 w1
 refine (plinthlaw25_TreeMakes.calls k x0.f0 x0.f1 A0_2 c0_2 x0.f2 a1 cap1 x1 true W hr0_2 hc0_2 hr1 hc1 h).mono fun e W' hd_ => ?_
 obtain ⟨rfl, hd_⟩ := hd_
 have bel : Below W.heap.size W W' := hd_
 exact ⟨_, rfl, _, _, _, [], _, [], hW', trodAll_mk1 (shut_bool Try.underlying4 _), (trodAll_cons_mk (Below.trod laidOut (by kernel_rfl) (of_decide_eq_true (by kernel_rfl)) k0 bel lt0) (trodAll_cons_mk (Below.trod laidOut (by kernel_rfl) (of_decide_eq_true (by kernel_rfl)) k1 bel lt1) trodAll_mk0)), rfl, bel.frame _, fun h => by cases h⟩
theorem over : Rows.treeMakesRow.holds Try.pinned (OpenSpec.ofChange Rows.treeMakesSpec) :=
 OpenClaim.holds_of_wide 4 Try.f4 rfl rfl rfl rfl rfl rfl rfl ⟨rfl, rfl, rfl, rfl, rfl⟩ rfl rfl rfl rfl rfl (by kernel_rfl) Try.func4 (by kernel_rfl)
  (of_decide_eq_true (by kernel_rfl)) (by unfold Func.isWrapper; first | (rw [if_pos (by decide +kernel)]; kernel_rfl) | (rw [if_neg (by decide +kernel)]; exact ⟨rfl, rfl⟩))
  (fun os started H enc _ => lifted os started H enc)
theorem proved : Rows.TreeMakesSaid := over
#print axioms proved
end Go.Proofs.Ytbmmddngadnofaa.treeMakes
namespace Go.Proofs.Ytbmmddngadnofaa
/-- The row, under a short name, for the claim. -/
theorem treeMakes_holds : Rows.TreeMakesSaid := treeMakes.proved
end Go.Proofs.Ytbmmddngadnofaa
