-- Written by ext (this session's own program): the row of the law plinthlaw25_TreeAsks, by RowKinds.
-- in short rows (short.py)
import Derived.Test.YtbmmddngadnofaaRows
import Derived.Test.YtbmmddngadnofaaFx35
import Derived.Test.YtbmmddngadnofaaPureTreeAsks
import Derived.Test.YtbmmddngadnofaaAskTreeAsks
import Derived.Test.YtbmmddngadnofaaRowKinds
import Derived.WalkKit
import Derived.ProofKit
import Derived.OpenShut
import Derived.ShutString
import Derived.ChangeOld
import Derived.Below
import Derived.Carry
import Derived.SizedLaws
namespace Go.Proofs.Ytbmmddngadnofaa.treeAsks
open Go.ChangeShapes Go.WideShapes Go.ChangeAt Go.RowKit Go.Proofs.Ytbmmddngadnofaa.RowKinds Go.Proofs.Ytbmmddngadnofaa.F Go.Proofs.YtbmmddngadnofaaW.PrintWords
open Go.ChangeMaps (open_string shut_string)
set_option linter.unusedVariables false
theorem own : ownKnob Try.prog.godebug = none := by kernel_rfl
theorem laidOut : laidOutB Try.prog = true := by kernel_rfl
theorem opens0 : Opens Try.prog k24 24 (fun x => ((x.f0.length ≤ maxLen ∧ x.f0.length * 24 ≤ 140737488351232 ∧ ∀ x0_ ∈ x.f0, (x0_.length ≤ maxLen ∧ x0_.length * 4 ≤ 140737488351232 ∧ ∀ x1_ ∈ x0_, (Lit.int .u32 x1_).wf = true)))) := (show Opens Try.prog k24 24 _ from opens_struct (fun x : S24 => x.f0) (fun p => (⟨p⟩ : S24)) (fun _ => rfl) Try.underlying24 (by kernel_rfl) (opensFs_one (by rfl) (by kernel_rfl) (opens_slice 40 24 Try.underlying22 (by kernel_rfl) (by kernel_rfl) (opens_slice 25 4 Try.underlying40 (by kernel_rfl) (by kernel_rfl) (opens_int Try.underlying25)))))
theorem opens1 : Opens Try.prog k24 24 (fun x => ((x.f0.length ≤ maxLen ∧ x.f0.length * 24 ≤ 140737488351232 ∧ ∀ x0_ ∈ x.f0, (x0_.length ≤ maxLen ∧ x0_.length * 4 ≤ 140737488351232 ∧ ∀ x1_ ∈ x0_, (Lit.int .u32 x1_).wf = true)))) := (show Opens Try.prog k24 24 _ from opens_struct (fun x : S24 => x.f0) (fun p => (⟨p⟩ : S24)) (fun _ => rfl) Try.underlying24 (by kernel_rfl) (opensFs_one (by rfl) (by kernel_rfl) (opens_slice 40 24 Try.underlying22 (by kernel_rfl) (by kernel_rfl) (opens_slice 25 4 Try.underlying40 (by kernel_rfl) (by kernel_rfl) (opens_int Try.underlying25)))))
set_option maxRecDepth 100000 in
theorem lifted (os : Os) (started : os.Started) (H : Type) (enc : TypeId × Value → H) :
  ReturnsInHanded {} Try.checked os 6 .any (Rows.treeAsksSpec.pre6 enc Try.prog Try.f6 Rows.treeAsksRow.domain false) (Rows.treeAsksSpec.post enc Try.prog Try.f6 false true false false) := by
 refine returnsInHanded_of_change_sized (C := Try.checked) own started (by kernel_rfl) Try.func6
  (ChangeSpec.witness6 (enc := enc) (C := Try.checked) false ⟨#[], #[.agg #[.slice none 0 0], .agg #[.slice none 0 0], .int .i64 0, .int .u32 0], []⟩ 8 (by kernel_rfl) (by kernel_rfl) (by kernel_rfl) (by kernel_rfl)) ?_
 intro W base args ds gs before hval0 hW hcnd hsz0 _
 have hsz : (DataW.weightsEach Try.prog (Try.f6.params.toList ++ Rows.treeAsksSpec.plain.varTypes Try.prog) (ds ++ gs)).all (· ≤ reachBytes) = true := hsz0
 have hval : ∀ (j : Nat) t v, Try.f6.params[j]? = some t → args[j]? = some v → Value.okWide Try.prog W .any base t v := hval0
 have hW' := hW
 obtain ⟨p, q, hA0, hV, rfl, hfz, hnd⟩ := hW
 have hA : DataW.TrodAll enc Try.prog W 0 (fun _ => true) true Try.f6.params.toList args.toList ds p := hA0
 rw [Try.params6] at hA hval hsz
 obtain ⟨v0, vs0, d0, ds0, p0, q0, hargs, rfl, rfl, h0, r0⟩ := trodAll_cons hA
 obtain ⟨v1, vs1, d1, ds1, p1, q1, rfl, rfl, rfl, h1, r1⟩ := trodAll_cons r0
 obtain ⟨v2, vs2, d2, ds2, p2, q2, rfl, rfl, rfl, h2, r2⟩ := trodAll_cons r1
 obtain ⟨v3, vs3, d3, ds3, p3, q3, rfl, rfl, rfl, h3, r3⟩ := trodAll_cons r2
 obtain ⟨rfl, rfl, rfl⟩ := trodAll_nil r3
 obtain rfl : args = #[v0, v1, v2, v3] := by cases args; simp_all
 obtain ⟨rfl, rfl⟩ := trodVars_none hV
 have k0 := h0
 have lt0 : ∀ x ∈ p0, x.block < W.heap.size := by obtain ⟨m, hm⟩ := k0; exact DataW.trod_lt m _ _ _ hm
 obtain ⟨x0, K0, w0⟩ := opens_arg opens0 hsz (j := 0) rfl rfl h0
 obtain ⟨cs0, rfl, _⟩ := okWide_struct Try.underlying24 (hval 0 24 v0 rfl rfl)
 obtain ⟨A0_0, c0_0, e0, hc0_0, hr0_0⟩ := k24_open K0
 obtain rfl : cs0 = #[.slice A0_0 x0.f0.length c0_0] := Array.ext' e0
 have k1 := h1
 have lt1 : ∀ x ∈ p1, x.block < W.heap.size := by obtain ⟨m, hm⟩ := k1; exact DataW.trod_lt m _ _ _ hm
 obtain ⟨x1, K1, w1⟩ := opens_arg opens1 hsz (j := 1) rfl rfl h1
 obtain ⟨cs1, rfl, _⟩ := okWide_struct Try.underlying24 (hval 1 24 v1 rfl rfl)
 obtain ⟨A1_0, c1_0, e1, hc1_0, hr1_0⟩ := k24_open K1
 obtain rfl : cs1 = #[.slice A1_0 x1.f0.length c1_0] := Array.ext' e1
 obtain ⟨x2, rfl, rfl, rfl, w2⟩ := open_int Try.underlying3 (hval 2 3 v2 rfl rfl) h2
 obtain ⟨x3, rfl, rfl, rfl, w3⟩ := open_int Try.underlying25 (hval 3 25 v3 rfl rfl) h3
 clear hA0 hval0 hsz0 hsz
 obtain ⟨k, h⟩ := Pure.TreeAsks x0 x1 x2 x3 w0 w1 w2 w3
 refine (plinthlaw25_TreeAsks.calls k A0_0 c0_0 x0.f0 A1_0 c1_0 x1.f0 x2 x3 true W hr0_0 hc0_0 hr1_0 hc1_0 ⟨rfl⟩ h).mono fun e W' hd_ => ?_
 obtain ⟨rfl, hd_⟩ := hd_
 have bel : Below W.heap.size W W' := hd_
 exact ⟨_, rfl, _, _, _, [], _, [], hW', trodAll_mk1 (shut_bool Try.underlying4 _), (trodAll_cons_mk (Below.trod laidOut (by kernel_rfl) (of_decide_eq_true (by kernel_rfl)) k0 bel lt0) (trodAll_cons_mk (Below.trod laidOut (by kernel_rfl) (of_decide_eq_true (by kernel_rfl)) k1 bel lt1) (trodAll_cons_mk (shut_int Try.underlying3 w2) (trodAll_cons_mk (shut_int Try.underlying25 w3) trodAll_mk0)))), rfl, bel.frame _, fun h => by cases h⟩
theorem over : Rows.treeAsksRow.holds Try.pinned (OpenSpec.ofChange Rows.treeAsksSpec) :=
 OpenClaim.holds_of_wide 6 Try.f6 rfl rfl rfl rfl rfl rfl rfl ⟨rfl, rfl, rfl, rfl, rfl⟩ rfl rfl rfl rfl rfl (by kernel_rfl) Try.func6 (by kernel_rfl)
  (of_decide_eq_true (by kernel_rfl)) (by unfold Func.isWrapper; first | (rw [if_pos (by decide +kernel)]; kernel_rfl) | (rw [if_neg (by decide +kernel)]; exact ⟨rfl, rfl⟩))
  (fun os started H enc _ => lifted os started H enc)
theorem proved : Rows.TreeAsksSaid := over
#print axioms proved
end Go.Proofs.Ytbmmddngadnofaa.treeAsks
namespace Go.Proofs.Ytbmmddngadnofaa
/-- The row, under a short name, for the claim. -/
theorem treeAsks_holds : Rows.TreeAsksSaid := treeAsks.proved
end Go.Proofs.Ytbmmddngadnofaa
