-- Written by ext (this session's own program): the row of the law plinthlaw25_TreePuts, by RowKinds.
-- in short rows (short.py)
import Derived.Test.YtbmmddngadnofaaRows
import Derived.Test.YtbmmddngadnofaaFx57
import Derived.Test.YtbmmddngadnofaaPureTreePuts
import Derived.Test.YtbmmddngadnofaaAskTreePuts
import Derived.Test.YtbmmddngadnofaaRowKinds
import Derived.WalkKit
import Derived.ProofKit
import Derived.OpenShut
import Derived.ShutString
import Derived.ChangeOld
import Derived.Below
import Derived.Carry
import Derived.SizedLaws
namespace Go.Proofs.Ytbmmddngadnofaa.treePuts
open Go.ChangeShapes Go.WideShapes Go.ChangeAt Go.RowKit Go.Proofs.Ytbmmddngadnofaa.RowKinds Go.Proofs.Ytbmmddngadnofaa.F Go.Proofs.YtbmmddngadnofaaW.PrintWords
open Go.ChangeMaps (open_string shut_string)
set_option linter.unusedVariables false
theorem own : ownKnob Try.prog.godebug = none := by kernel_rfl
theorem laidOut : laidOutB Try.prog = true := by kernel_rfl
theorem opens0 : Opens Try.prog k69 69 (fun x => ((Lit.int .i64 x.f0).wf = true ∧ ((Lit.int .i64 x.f1.f0).wf = true ∧ (Lit.int .i64 x.f1.f1).wf = true) ∧ (x.f2.length ≤ maxLen ∧ x.f2.length * 40 ≤ 140737488351232 ∧ ∀ x0_ ∈ x.f2, ((Lit.int .i64 x0_.f0).wf = true ∧ (Lit.int .i64 x0_.f1).wf = true ∧ (x0_.f2.length ≤ maxLen ∧ x0_.f2.length * 1 ≤ 140737488351232 ∧ ∀ x1_ ∈ x0_.f2, (Lit.int .u8 x1_).wf = true))) ∧ (x.f3.length ≤ maxLen ∧ x.f3.length * 48 ≤ 140737488351232 ∧ ∀ x0_ ∈ x.f3, ((Lit.int .i64 x0_.f0).wf = true ∧ (Lit.int .i64 x0_.f1).wf = true ∧ ((Lit.int .u8 x0_.f2.f0).wf = true ∧ (x0_.f2.f1.length ≤ maxLen ∧ x0_.f2.f1.length * 1 ≤ 140737488351232 ∧ ∀ x1_ ∈ x0_.f2.f1, (Lit.int .u8 x1_).wf = true)))) ∧ ((Lit.int .i64 x.f4.f0).wf = true ∧ (x.f4.f1.length ≤ maxLen ∧ x.f4.f1.length * 8 ≤ 140737488351232 ∧ ∀ x0_ ∈ x.f4.f1, (Lit.int .i64 x0_).wf = true)))) := (show Opens Try.prog k69 69 _ from opens_struct (fun x : S69 => (x.f0, x.f1, x.f2, x.f3, x.f4)) (fun p => (⟨p.1, p.2.1, p.2.2.1, p.2.2.2.1, p.2.2.2.2⟩ : S69)) (fun _ => rfl) Try.underlying69 (by kernel_rfl) (opensFs_cons (by rfl) (by kernel_rfl) (opens_int Try.underlying3) (opensFs_cons (by rfl) (by kernel_rfl) (show Opens Try.prog k63 63 _ from opens_struct (fun x : S63 => (x.f0, x.f1)) (fun p => (⟨p.1, p.2⟩ : S63)) (fun _ => rfl) Try.underlying63 (by kernel_rfl) (opensFs_cons (by rfl) (by kernel_rfl) (opens_int Try.underlying3) (opensFs_one (by rfl) (by kernel_rfl) (opens_int Try.underlying3)))) (opensFs_cons (by rfl) (by kernel_rfl) (opens_slice 39 40 Try.underlying64 (by kernel_rfl) (by kernel_rfl) (show Opens Try.prog k39 39 _ from opens_struct (fun x : S39 => (x.f0, x.f1, x.f2)) (fun p => (⟨p.1, p.2.1, p.2.2⟩ : S39)) (fun _ => rfl) Try.underlying39 (by kernel_rfl) (opensFs_cons (by rfl) (by kernel_rfl) (opens_int Try.underlying3) (opensFs_cons (by rfl) (by kernel_rfl) (opens_int Try.underlying3) (opensFs_one (by rfl) (by kernel_rfl) (opens_slice 5 1 Try.underlying37 (by kernel_rfl) (by kernel_rfl) (opens_int Try.underlying5))))))) (opensFs_cons (by rfl) (by kernel_rfl) (opens_slice 121 48 Try.underlying65 (by kernel_rfl) (by kernel_rfl) (show Opens Try.prog k121 121 _ from opens_struct (fun x : S121 => (x.f0, x.f1, x.f2)) (fun p => (⟨p.1, p.2.1, p.2.2⟩ : S121)) (fun _ => rfl) Try.underlying121 (by kernel_rfl) (opensFs_cons (by rfl) (by kernel_rfl) (opens_int Try.underlying3) (opensFs_cons (by rfl) (by kernel_rfl) (opens_int Try.underlying3) (opensFs_one (by rfl) (by kernel_rfl) (show Opens Try.prog k119 119 _ from opens_struct (fun x : S119 => (x.f0, x.f1)) (fun p => (⟨p.1, p.2⟩ : S119)) (fun _ => rfl) Try.underlying119 (by kernel_rfl) (opensFs_cons (by rfl) (by kernel_rfl) (opens_int Try.underlying117) (opensFs_one (by rfl) (by kernel_rfl) (opens_slice 5 1 Try.underlying37 (by kernel_rfl) (by kernel_rfl) (opens_int Try.underlying5)))))))))) (opensFs_one (by rfl) (by kernel_rfl) (show Opens Try.prog k67 67 _ from opens_struct (fun x : S67 => (x.f0, x.f1)) (fun p => (⟨p.1, p.2⟩ : S67)) (fun _ => rfl) Try.underlying67 (by kernel_rfl) (opensFs_cons (by rfl) (by kernel_rfl) (opens_int Try.underlying3) (opensFs_one (by rfl) (by kernel_rfl) (opens_slice 3 8 Try.underlying56 (by kernel_rfl) (by kernel_rfl) (opens_int Try.underlying3)))))))))))
theorem opens2 : Opens Try.prog (Kd.slice 5 (Kd.int .u8)) 37 (fun x => (x.length ≤ maxLen ∧ x.length * 1 ≤ 140737488351232 ∧ ∀ x0_ ∈ x, (Lit.int .u8 x0_).wf = true)) := (opens_slice 5 1 Try.underlying37 (by kernel_rfl) (by kernel_rfl) (opens_int Try.underlying5))
set_option maxRecDepth 100000 in
theorem lifted (os : Os) (started : os.Started) (H : Type) (enc : TypeId × Value → H) :
  ReturnsInHanded {} Try.checked os 10 .any (Rows.treePutsSpec.pre6 enc Try.prog Try.f10 Rows.treePutsRow.domain false) (Rows.treePutsSpec.post enc Try.prog Try.f10 false true false false) := by
 refine returnsInHanded_of_change_sized (C := Try.checked) own started (by kernel_rfl) Try.func10
  (ChangeSpec.witness6 (enc := enc) (C := Try.checked) false ⟨#[], #[.agg #[.int .i64 0, .int .i64 0, .int .i64 0, .slice none 0 0, .slice none 0 0, .int .i64 0, .slice none 0 0], .int .u8 0, .slice none 0 0, .int .i64 0], []⟩ 8 (by kernel_rfl) (by kernel_rfl) (by kernel_rfl) (by kernel_rfl)) ?_
 intro W base args ds gs before hval0 hW hcnd hsz0 _
 have hsz : (DataW.weightsEach Try.prog (Try.f10.params.toList ++ Rows.treePutsSpec.plain.varTypes Try.prog) (ds ++ gs)).all (· ≤ reachBytes) = true := hsz0
 have hval : ∀ (j : Nat) t v, Try.f10.params[j]? = some t → args[j]? = some v → Value.okWide Try.prog W .any base t v := hval0
 have hW' := hW
 obtain ⟨p, q, hA0, hV, rfl, hfz, hnd⟩ := hW
 have hA : DataW.TrodAll enc Try.prog W 0 (fun _ => true) true Try.f10.params.toList args.toList ds p := hA0
 rw [Try.params10] at hA hval hsz
 obtain ⟨v0, vs0, d0, ds0, p0, q0, hargs, rfl, rfl, h0, r0⟩ := trodAll_cons hA
 obtain ⟨v1, vs1, d1, ds1, p1, q1, rfl, rfl, rfl, h1, r1⟩ := trodAll_cons r0
 obtain ⟨v2, vs2, d2, ds2, p2, q2, rfl, rfl, rfl, h2, r2⟩ := trodAll_cons r1
 obtain ⟨v3, vs3, d3, ds3, p3, q3, rfl, rfl, rfl, h3, r3⟩ := trodAll_cons r2
 obtain ⟨rfl, rfl, rfl⟩ := trodAll_nil r3
 obtain rfl : args = #[v0, v1, v2, v3] := by cases args; simp_all
 obtain ⟨rfl, rfl⟩ := trodVars_none hV
 have k0 := h0
 have lt0 : ∀ x ∈ p0, x.block < W.heap.size := by obtain ⟨m, hm⟩ := k0; exact DataW.trod_lt m _ _ _ hm
 obtain ⟨x0, K0, w0⟩ := opens_arg opens0 hsz (j := 0) rfl rfl h0
 obtain ⟨cs0, rfl, _⟩ := okWide_struct Try.underlying69 (hval 0 69 v0 rfl rfl)
 obtain ⟨A0_3, c0_3, A0_4, c0_4, A0_6, c0_6, e0, hc0_3, hr0_3, hc0_4, hr0_4, hc0_6, hr0_6⟩ := k69_open K0
 obtain rfl : cs0 = #[.int .i64 x0.f0, .int .i64 x0.f1.f0, .int .i64 x0.f1.f1, .slice A0_3 x0.f2.length c0_3, .slice A0_4 x0.f3.length c0_4, .int .i64 x0.f4.f0, .slice A0_6 x0.f4.f1.length c0_6] := Array.ext' e0
 obtain ⟨x1, rfl, rfl, rfl, w1⟩ := open_int Try.underlying5 (hval 1 5 v1 rfl rfl) h1
 have k2 := h2
 have lt2 : ∀ x ∈ p2, x.block < W.heap.size := by obtain ⟨m, hm⟩ := k2; exact DataW.trod_lt m _ _ _ hm
 obtain ⟨x2, K2, w2⟩ := opens_arg opens2 hsz (j := 2) rfl rfl h2
 obtain ⟨a2, len2, cap2, rfl⟩ := okWide_slice Try.underlying37 (hval 2 37 v2 rfl rfl)
 obtain ⟨A2, c2, e2, hc2, hr2⟩ := K2
 obtain ⟨rfl, rfl, rfl⟩ : a2 = A2 ∧ len2 = x2.length ∧ cap2 = c2 := by simpa [Value.cells] using e2
 obtain ⟨x3, rfl, rfl, rfl, w3⟩ := open_int Try.underlying3 (hval 3 3 v3 rfl rfl) h3
 clear hA0 hval0 hsz0 hsz
 obtain ⟨k, h⟩ := Pure.TreePuts x0 x1 x2 x3 w0 w1 w2 w3
 refine (plinthlaw25_TreePuts.calls k x0.f0 x0.f1.f0 x0.f1.f1 A0_3 c0_3 x0.f2 A0_4 c0_4 x0.f3 x0.f4.f0 A0_6 c0_6 x0.f4.f1 x1 a2 cap2 x2 x3 true W hr0_3 hc0_3 hr0_4 hc0_4 hr0_6 hc0_6 hr2 hc2 ⟨rfl⟩ h).mono fun e W' hd_ => ?_
 obtain ⟨rfl, hd_⟩ := hd_
 have bel : Below W.heap.size W W' := hd_
 exact ⟨_, rfl, _, _, _, [], _, [], hW', trodAll_mk1 (shut_bool Try.underlying4 _), (trodAll_cons_mk (Below.trod laidOut (by kernel_rfl) (of_decide_eq_true (by kernel_rfl)) k0 bel lt0) (trodAll_cons_mk (shut_int Try.underlying5 w1) (trodAll_cons_mk (Below.trod laidOut (by kernel_rfl) (of_decide_eq_true (by kernel_rfl)) k2 bel lt2) (trodAll_cons_mk (shut_int Try.underlying3 w3) trodAll_mk0)))), rfl, bel.frame _, fun h => by cases h⟩
theorem over : Rows.treePutsRow.holds Try.pinned (OpenSpec.ofChange Rows.treePutsSpec) :=
 OpenClaim.holds_of_wide 10 Try.f10 rfl rfl rfl rfl rfl rfl rfl ⟨rfl, rfl, rfl, rfl, rfl⟩ rfl rfl rfl rfl rfl (by kernel_rfl) Try.func10 (by kernel_rfl)
  (of_decide_eq_true (by kernel_rfl)) (by unfold Func.isWrapper; first | (rw [if_pos (by decide +kernel)]; kernel_rfl) | (rw [if_neg (by decide +kernel)]; exact ⟨rfl, rfl⟩))
  (fun os started H enc _ => lifted os started H enc)
theorem proved : Rows.TreePutsSaid := over
#print axioms proved
end Go.Proofs.Ytbmmddngadnofaa.treePuts
namespace Go.Proofs.Ytbmmddngadnofaa
/-- The row, under a short name, for the claim. -/
theorem treePuts_holds : Rows.TreePutsSaid := treePuts.proved
end Go.Proofs.Ytbmmddngadnofaa
