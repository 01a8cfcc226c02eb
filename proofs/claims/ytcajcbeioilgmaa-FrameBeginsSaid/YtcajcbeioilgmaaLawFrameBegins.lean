-- Written by ext (this session's own program): the row of the law plinthlaw03_FrameBegins, by RowKinds.
import Derived.Test.YtcajcbeioilgmaaRows
import Derived.Test.YtcajcbeioilgmaaFx32
import Derived.Test.YtcajcbeioilgmaaPureFrameBegins
import Derived.Test.YtcajcbeioilgmaaAskFrameBegins
import Derived.Test.YtcajcbeioilgmaaRowKinds
import Derived.WalkKit
import Derived.ProofKit
import Derived.OpenShut
import Derived.ShutString
import Derived.ChangeOld
import Derived.Below
import Derived.Carry
import Derived.SizedLaws
namespace Go.Proofs.Ytcajcbeioilgmaa.frameBegins
open Go.ChangeShapes Go.WideShapes Go.ChangeAt Go.RowKit Go.Proofs.Ytcajcbeioilgmaa.RowKinds Go.Proofs.Ytcajcbeioilgmaa.F Go.Proofs.YtcajcbeioilgmaaW.PrintWords
open Go.ChangeMaps (open_string shut_string)
set_option linter.unusedVariables false
theorem own : ownKnob Try.prog.godebug = none := by kernel_rfl
theorem laidOut : laidOutB Try.prog = true := by kernel_rfl
theorem opens0 : Opens Try.prog (Kd.slice 26 k26) 39 (fun x => (x.length ≤ maxLen ∧ x.length * 40 ≤ 140737488351232 ∧ ∀ x0_ ∈ x, ((Lit.int .u8 x0_.f0).wf = true ∧ (Lit.int .u64 x0_.f1).wf = true ∧ (x0_.f2.length ≤ maxLen ∧ x0_.f2.length * 1 ≤ 140737488351232 ∧ ∀ x1_ ∈ x0_.f2, (Lit.int .u8 x1_).wf = true)))) := (opens_slice 26 40 Try.underlying39 (by kernel_rfl) (by kernel_rfl) (show Opens Try.prog k26 26 _ from opens_struct (fun x : S26 => (x.f0, x.f1, x.f2)) (fun p => (⟨p.1, p.2.1, p.2.2⟩ : S26)) (fun _ => rfl) Try.underlying26 (by kernel_rfl) (opensFs_cons (by rfl) (by kernel_rfl) (opens_int Try.underlying5) (opensFs_cons (by rfl) (by kernel_rfl) (opens_int Try.underlying24) (opensFs_one (by rfl) (by kernel_rfl) (opens_slice 5 1 Try.underlying22 (by kernel_rfl) (by kernel_rfl) (opens_int Try.underlying5)))))))
set_option maxRecDepth 100000 in
theorem lifted (os : Os) (started : os.Started) (H : Type) (enc : TypeId × Value → H) :
    ReturnsInHanded {} Try.checked os 9 .any (Rows.frameBeginsSpec.pre6 enc Try.prog Try.f9 Rows.frameBeginsRow.domain false) (Rows.frameBeginsSpec.post enc Try.prog Try.f9 false true false false) := by
  refine returnsInHanded_of_change_sized (C := Try.checked) own started (by kernel_rfl) Try.func9
    (ChangeSpec.witness6 (enc := enc) (C := Try.checked) false ⟨#[], #[.slice none 0 0, .int .u16 0], []⟩ 8 (by kernel_rfl) (by kernel_rfl) (by kernel_rfl) (by kernel_rfl)) ?_
  intro W base args ds gs before hval0 hW hcnd hsz0 _
  have hsz : (DataW.weightsEach Try.prog (Try.f9.params.toList ++ Rows.frameBeginsSpec.plain.varTypes Try.prog) (ds ++ gs)).all (· ≤ reachBytes) = true := hsz0
  have hval : ∀ (j : Nat) t v, Try.f9.params[j]? = some t → args[j]? = some v → Value.okWide Try.prog W .any base t v := hval0
  have hW' := hW
  obtain ⟨p, q, hA0, hV, rfl, hfz, hnd⟩ := hW
  have hA : DataW.TrodAll enc Try.prog W 0 (fun _ => true) true Try.f9.params.toList args.toList ds p := hA0
  rw [Try.params9] at hA hval hsz
  obtain ⟨v0, vs0, d0, ds0, p0, q0, hargs, rfl, rfl, h0, r0⟩ := trodAll_cons hA
  obtain ⟨v1, vs1, d1, ds1, p1, q1, rfl, rfl, rfl, h1, r1⟩ := trodAll_cons r0
  obtain ⟨rfl, rfl, rfl⟩ := trodAll_nil r1
  obtain rfl : args = #[v0, v1] := by cases args; simp_all
  obtain ⟨rfl, rfl⟩ := trodVars_none hV
  have k0 := h0
  have lt0 : ∀ x ∈ p0, x.block < W.heap.size := by obtain ⟨m, hm⟩ := k0; exact DataW.trod_lt m _ _ _ hm
  obtain ⟨x0, K0, w0⟩ := opens_arg opens0 hsz (j := 0) rfl rfl h0
  obtain ⟨a0, len0, cap0, rfl⟩ := okWide_slice Try.underlying39 (hval 0 39 v0 rfl rfl)
  obtain ⟨A0, c0, e0, hc0, hr0⟩ := K0
  obtain ⟨rfl, rfl, rfl⟩ : a0 = A0 ∧ len0 = x0.length ∧ cap0 = c0 := by simpa [Value.cells] using e0
  obtain ⟨x1, rfl, rfl, rfl, w1⟩ := open_int Try.underlying36 (hval 1 36 v1 rfl rfl) h1
  clear hA0 hval0 hsz0 hsz
  obtain ⟨k, h⟩ := Pure.FrameBegins x0 x1 w0 w1
  refine (plinthlaw03_FrameBegins.calls k a0 cap0 x0 x1 true W hr0 hc0 h).mono fun e W' hd_ => ?_
  obtain ⟨rfl, hd_⟩ := hd_
  have bel : Below W.heap.size W W' := hd_
  exact ⟨_, rfl, _, _, _, [], _, [], hW', trodAll_mk1 (shut_bool Try.underlying4 _), (trodAll_cons_mk (Below.trod laidOut (by kernel_rfl) (of_decide_eq_true (by kernel_rfl)) k0 bel lt0) (trodAll_cons_mk (shut_int Try.underlying36 w1) trodAll_mk0)), rfl, bel.frame _, fun h => by cases h⟩
theorem over : Rows.frameBeginsRow.holds Try.pinned (OpenSpec.ofChange Rows.frameBeginsSpec) :=
  OpenClaim.holds_of_wide 9 Try.f9 rfl rfl rfl rfl rfl rfl rfl ⟨rfl, rfl, rfl, rfl, rfl⟩ rfl rfl rfl rfl rfl (by kernel_rfl) Try.func9 (by kernel_rfl)
    (of_decide_eq_true (by kernel_rfl)) (by unfold Func.isWrapper; first | (rw [if_pos (by decide +kernel)]; kernel_rfl) | (rw [if_neg (by decide +kernel)]; exact ⟨rfl, rfl⟩))
    (fun os started H enc _ => lifted os started H enc)
theorem proved : Rows.FrameBeginsSaid := over
#print axioms proved
end Go.Proofs.Ytcajcbeioilgmaa.frameBegins
namespace Go.Proofs.Ytcajcbeioilgmaa
/-- The row, under a short name, for the claim. -/
theorem frameBegins_holds : Rows.FrameBeginsSaid := frameBegins.proved
end Go.Proofs.Ytcajcbeioilgmaa
