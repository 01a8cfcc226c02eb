-- Written by ext (this session's own program).
import Derived.Test.YtbpffhdecbgmpaaFx0
import Derived.Test.YtbpffhdecbgmpaaFx2
namespace Go.Proofs.Ytbpffhdecbgmpaa.F
open Go.RowKit Go.Proofs.YtbpffhdecbgmpaaW.PrintWords Go.Proofs.YtbpffhdecbgmpaaW.PrintLast Go.Proofs.YtbpffhdecbgmpaaW.PrintMore
attribute [local go_sem] max2_int min2_int max_two min_two max_three min_three max_four min_four   -- for this text's walks alone
set_option linter.unusedVariables false
set_option linter.unusedSimpArgs false

/-! ### plinthlaw02_awake: function 13 -/
def plinthlaw02_awake.f (k : Nat)  : Option (Bool) := (crc_Sum.f k (([(([49, 50, 51, 52] : List Int)), (([53, 54, 55, 56, 57] : List Int))] : List (List Int)))).bind fun t124 => (some (t124 == 3808858755))
theorem plinthlaw02_awake.mono : ∀ k, LeO (plinthlaw02_awake.f k ) (plinthlaw02_awake.f (k + 1) ) := by
  intro  k
  unfold plinthlaw02_awake.f
  repeat' first
      | (with_reducible exact crc_Sum.mono _ _)
      | (with_reducible exact LeO.refl _)
      | (with_reducible exact LeO.none _)
      | (with_reducible refine LeO.ite ?_ ?_)
      | (with_reducible refine LeO.bind ?_ (fun _ => ?_))
      | exact crc_Sum.mono _ _
      | exact LeO.none _
      | refine LeO.ite ?_ ?_
      | refine LeO.bind ?_ (fun _ => ?_)
set_option maxHeartbeats 8000000 in
set_option maxRecDepth 100000 in
theorem plinthlaw02_awake.calls (k : Nat)  (r : Bool) (w : World) (h : plinthlaw02_awake.f k  = some r) :
    Calls Try.prog 13 #[] w fun e w' => e = .returned (.bool r) ∧ Below w.heap.size w w' := by
  have HB := Aside0.mk (Below.refl w.heap.size w)
  have H : ((crc_Sum.f k (([(([49, 50, 51, 52] : List Int)), (([53, 54, 55, 56, 57] : List Int))] : List (List Int)))).bind fun t124 => (some (t124 == 3808858755))) = some r := h
  clear h
  obtain ⟨y115, hy115⟩ : ∃ y_ : List Int, y_ = (([49, 50, 51, 52] : List Int)) := ⟨_, rfl⟩
  replace H : ((crc_Sum.f k (([y115, (([53, 54, 55, 56, 57] : List Int))] : List (List Int)))).bind fun t124 => (some (t124 == 3808858755))) = some r := by first | (rw [hy115]; with_reducible exact H) | (have H2_ := (Option.bind_some _ _).symm.trans H; rw [hy115]; with_reducible exact H2_) | (have H2_ := (Option.bind_some _ _).symm.trans H; with_reducible exact H2_) | with_reducible exact H | (rw [hy115]; exact H) | exact H
  have Ny115 := Aside0.mk hy115
  clear hy115
  obtain ⟨y118, hy118⟩ : ∃ y_ : List Int, y_ = (([53, 54, 55, 56, 57] : List Int)) := ⟨_, rfl⟩
  replace H : ((crc_Sum.f k (([y115, y118] : List (List Int)))).bind fun t124 => (some (t124 == 3808858755))) = some r := by first | (rw [hy118]; with_reducible exact H) | (have H2_ := (Option.bind_some _ _).symm.trans H; rw [hy118]; with_reducible exact H2_) | (have H2_ := (Option.bind_some _ _).symm.trans H; with_reducible exact H2_) | with_reducible exact H | (rw [hy118]; exact H) | exact H
  have Ny118 := Aside0.mk hy118
  clear hy118
  obtain ⟨y121, hy121⟩ : ∃ y_ : List (List Int), y_ = (([y115, y118] : List (List Int))) := ⟨_, rfl⟩
  replace H : ((crc_Sum.f k y121).bind fun t124 => (some (t124 == 3808858755))) = some r := by first | (rw [hy121]; with_reducible exact H) | (have H2_ := (Option.bind_some _ _).symm.trans H; rw [hy121]; with_reducible exact H2_) | (have H2_ := (Option.bind_some _ _).symm.trans H; with_reducible exact H2_) | with_reducible exact H | (rw [hy121]; exact H) | exact H
  have Ny121 := Aside0.mk hy121
  clear hy121
  replace H := Option.bind_eq_some_iff.mp H
  obtain ⟨t124, A10, H⟩ := H
  replace H : (some (t124 == 3808858755)) = some r := H
  have A1 := Aside0.mk A10
  clear A10
  obtain rfl := Option.some.inj H
  go_enter Try.func13, Try.ntmps13
  go_wp2_with (first | ((with_reducible refine gate_dst (N := 1) rfl ?_); refine ext_litc _ 22 5 ?hg ?hg2 (N := 1) ?hd ([49, 50, 51, 52] : List Int) Try.underlying22 Try.underlying5 ?hr ?hr2 (Below.refl _ _) (Nat.le_refl _) (by simp) ?_; (case hd => rfl); (case hg => rfl); (case hg2 => rfl); (case hr => first | (go_simp; done) | (go_simp; rfl) | (simp only [nums, List.map_cons, List.map_nil]; go_simp; done) | (simp only [nums, List.map_cons, List.map_nil]; go_simp; rfl)); (case hr2 => intro w2_ w3_ hcv_; (try simp only [List.length_cons, List.length_nil, Nat.zero_add, Nat.reduceAdd] at hcv_); first | (go_simp; done) | (go_simp; rfl)); intro v116 w2 ho3 hb hg_ hnew_; clear hg_ hnew_; (first | rw [← Ny115.out] at ho3 | (simp only [Int.reduceToNat] at ho3; rw [← Ny115.out] at ho3)); have HO117 := Aside0.mk (Kd.V_lower (Kd.V_mono (ok' := fun k_ => True) ho3 (fun k_ hk_ => trivial)) (below_size (upB0 HB.out))); replace HB := Aside0.mk (below_step (upB0 HB.out) hb); clear hb ho3) | ((with_reducible refine gate_dst (N := 3) rfl ?_); refine ext_litc _ 22 5 ?hg ?hg2 (N := 3) ?hd ([53, 54, 55, 56, 57] : List Int) Try.underlying22 Try.underlying5 ?hr ?hr2 (Below.refl _ _) (Nat.le_refl _) (by simp) ?_; (case hd => rfl); (case hg => rfl); (case hg2 => rfl); (case hr => first | (go_simp; done) | (go_simp; rfl) | (simp only [nums, List.map_cons, List.map_nil]; go_simp; done) | (simp only [nums, List.map_cons, List.map_nil]; go_simp; rfl)); (case hr2 => intro w2_ w3_ hcv_; (try simp only [List.length_cons, List.length_nil, Nat.zero_add, Nat.reduceAdd] at hcv_); first | (go_simp; done) | (go_simp; rfl)); intro v119 w4 ho5 hb hg_ hnew_; clear hg_ hnew_; (first | rw [← Ny118.out] at ho5 | (simp only [Int.reduceToNat] at ho5; rw [← Ny118.out] at ho5)); replace HO117 := Aside0.mk (Kd.V_below (upV HO117.out) hb); have HO120 := Aside0.mk (Kd.V_lower (Kd.V_mono (ok' := fun k_ => True) ho5 (fun k_ hk_ => trivial)) (below_size (upB0 HB.out))); replace HB := Aside0.mk (below_step (upB0 HB.out) hb); clear hb ho5; obtain ⟨Ao6, co6, eo6⟩ := Kd.V_slice HO117.out; subst eo6; obtain ⟨Ao7, co7, eo7⟩ := Kd.V_slice HO120.out; subst eo7) | ((with_reducible refine gate_dst (N := 5) rfl ?_); refine Kd.N_lit (Kd.slice 5 (Kd.int .u8)) _ 22 ?hg (N' := 5) ?hd (xs := ([y115, y118] : List (List Int))) (inner := [.slice Ao6 y115.length co6, .slice Ao7 y118.length co7]) (ok := (fun _ => True)) (okp := (fun _ => True)) ?hr ?hp (fun _ hk => hk) ((show ∀ k_, w4.heap.size ≤ k_ → (fun _ => True) k_ from fun k_ hk => trivial) _ (Nat.le_refl _)) (Below.refl _ _) (Nat.le_refl _) (by simp) ?_; (case hd => rfl); (case hg => rfl); (case hr => first | (go_simp; done) | (go_simp; rfl)); (case hp => (with_reducible repeat (first | refine ext_reps_drewN ?_ | refine ext_reps_drew ?_ | refine ext_reps_alloc ?_)); exact (Reps.one (show Kd.FK (Kd.slice 5 (Kd.int .u8)) _ _ y115 [.slice Ao6 y115.length co6] from (Kd.FK_slice_mk (Kd.V_reads' (Kd.V_mono (ok' := (fun _ => True)) (HO117.out) (fun k_ hk => trivial))).2.1 (Kd.V_F (Kd.V_mono (ok' := (fun _ => True)) (HO117.out) (fun k_ hk => trivial))))) (Reps.one (show Kd.FK (Kd.slice 5 (Kd.int .u8)) _ _ y118 [.slice Ao7 y118.length co7] from (Kd.FK_slice_mk (Kd.V_reads' (Kd.V_mono (ok' := (fun _ => True)) (HO120.out) (fun k_ hk => trivial))).2.1 (Kd.V_F (Kd.V_mono (ok' := (fun _ => True)) (HO120.out) (fun k_ hk => trivial))))) (Reps.none _ _)))); intro v122 w8 ho9 hb hg_ hnew_; clear hg_ hnew_; (first | rw [← Ny121.out] at ho9 | (simp only [Int.reduceToNat] at ho9; rw [← Ny121.out] at ho9)); replace HO117 := Aside0.mk (Kd.V_elder' (upV HO117.out) (Kd.N_base ho9) hb); replace HO120 := Aside0.mk (Kd.V_elder' (upV HO120.out) (Kd.N_base ho9) hb); have HO123 := Aside0.mk (Kd.N_lower ho9 (below_size (upB0 HB.out))); replace HB := Aside0.mk (below_step (upB0 HB.out) hb); clear hb ho9; obtain ⟨Ao10, co10, eo10⟩ := Kd.N_slice HO123.out; subst eo10) | ((with_reducible refine gate_callee (f := 9) rfl ?_); refine goesL_ (some 6) rfl rfl Try.func9 (by kernel_rfl) rfl #[.slice Ao10 y121.length co10] rfl argA ?_; (with_reducible refine (crc_Sum.calls k _ _ y121 t124 _ ?side1 ?side2 A1.out).mono ?_); (case side1 => exact upC ((Kd.N_reads' HO123.out).2.2)); (case side2 => exact (Kd.N_reads' HO123.out).2.1); rintro e w' ⟨rfl, ⟨nd, rfl⟩⟩; refine ⟨_, rfl, ?_⟩))
  go_ret
  exact ⟨by first | rfl | (simp [errW_none, errW_some] <;> rfl) | (simp [*, errW_none, errW_some] <;> rfl), upB0 HB.out⟩

-- NOT PRINTED: function 25 (crc_zero)

-- NOT PRINTED: function 26 (crc_matrix_times)

-- NOT PRINTED: function 27 (crc_matrix_twice)

end Go.Proofs.Ytbpffhdecbgmpaa.F
