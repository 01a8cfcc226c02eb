-- Written by ext (this session's own program).
-- in short rows (short.py)
import Derived.Test.YtbmmddngadnofaaFx0
namespace Go.Proofs.Ytbmmddngadnofaa.F
open Go.RowKit Go.Proofs.YtbmmddngadnofaaW.PrintWords Go.Proofs.YtbmmddngadnofaaW.PrintLast Go.Proofs.YtbmmddngadnofaaW.PrintMore
attribute [local go_sem] max2_int min2_int max_two min_two max_three min_three max_four min_four   -- for this text's walks alone
set_option linter.unusedVariables false
set_option linter.unusedSimpArgs false

/-! ### slices_Clone_int_int: function 90 -/
def slices_Clone_int_int.f (l0 : List Int) : Option (List Int) := (some (([] : List Int) : List Int)).bind fun y547 => (if y547.length + l0.length < 17592186044416 then (some (y547 ++ l0)) else (none))
set_option maxHeartbeats 8000000 in
set_option maxRecDepth 100000 in
theorem slices_Clone_int_int.calls (A0 : Option Addr) (c0 : Nat) (l0 : List Int) (r : List Int) (w : World) (hr0 : Kd.C (Kd.int .i64) w A0 l0.length l0) (hc0 : l0.length ≤ c0) (h : slices_Clone_int_int.f l0 = some r) :
  Calls Try.prog 90 #[.slice A0 l0.length c0] w fun e w' => ∃ v0_ : Value, e = .returned (v0_) ∧ Kd.R (Kd.int .i64) 3 w' w.heap.size (fun _ => True) v0_ r ∧ Below w.heap.size w w' := by
 have HR0 := Aside0.mk hr0
 have HC0 := Aside0.mk hc0
 clear hr0 hc0
 have HB := Aside0.mk (Below.refl w.heap.size w)
 have H : ((some (([] : List Int) : List Int)).bind fun y547 => (if y547.length + l0.length < 17592186044416 then (some (y547 ++ l0)) else (none))) = some r := h
 clear h
 obtain ⟨y547, hy547⟩ : ∃ y_ : List Int, y_ = (([] : List Int)) := ⟨_, rfl⟩
 replace H : (if y547.length + l0.length < 17592186044416 then (some (y547 ++ l0)) else (none)) = some r := by first | (rw [hy547]; with_reducible exact H) | (have H2_ := (Option.bind_some _ _).symm.trans H; rw [hy547]; with_reducible exact H2_) | (have H2_ := (Option.bind_some _ _).symm.trans H; with_reducible exact H2_) | with_reducible exact H | (rw [hy547]; exact H) | exact H
 have Ny547 := Aside0.mk hy547
 clear hy547
 by_cases c2 : y547.length + l0.length < 17592186044416
 ·rw [if_pos c2] at H
  have LMc2 := Aside0.mk c2
  clear c2
  obtain ⟨y550, hy550⟩ : ∃ y_ : List Int, y_ = (y547 ++ l0) := ⟨_, rfl⟩
  replace H : (some y550) = some r := by first | (rw [hy550]; with_reducible exact H) | (have H2_ := (Option.bind_some _ _).symm.trans H; rw [hy550]; with_reducible exact H2_) | (have H2_ := (Option.bind_some _ _).symm.trans H; with_reducible exact H2_) | with_reducible exact H | (rw [hy550]; exact H) | exact H
  have Ny550 := Aside0.mk hy550
  clear hy550
  obtain rfl := Option.some.inj H
  rcases A0 with _ | ad0_
  ·have hl0_ : Aside0 (l0 = []) := ⟨ext_nil HR0.out⟩
   have hq_ := fun (w : World) => Lib.run_eql_slice_nil (P := Try.prog) w 56 3 none l0.length c0 0 0 Try.underlying56
   go_enter Try.func90, Try.ntmps90
   go_wp2
   go_ret
   rw [Ny550.out, Ny547.out, hl0_.out]
   exact ⟨_, rfl, by first | exact Kd.R_nil _ _ _ _ _ | exact ext_nilout _ _ _ _ _, Below.refl _ _⟩
  have hq_ := fun (w : World) => Lib.run_eql_slice_nil (P := Try.prog) w 56 3 (some ad0_) l0.length c0 0 0 Try.underlying56
  go_enter Try.func90, Try.ntmps90
  go_wp2_with (first | ((with_reducible refine gate_dst (N := 5) rfl ?_); refine Kd.R_lit (Kd.int .i64) _ 3 ?hg (N := 5) ?hd (xs := ([] : List Int)) (inner := []) (ok := fun _ => True) (okp := fun _ => True) ?hr ?hp (fun _ hk => hk) trivial (Below.refl _ _) (Nat.le_refl _) (by simp) ?_; (case hd => rfl); (case hg => rfl); (case hr => first | (go_simp; done) | (go_simp; rfl)); (case hp => exact (Reps.none _ _)); intro v548 w3 ho4 hb hg_ hnew_; clear hg_ hnew_; (first | rw [← Ny547.out] at ho4 | (simp only [Int.reduceToNat] at ho4; rw [← Ny547.out] at ho4)); have HO549 := Aside0.mk (Kd.R_lower ho4 (below_size (upB0 HB.out))); replace HB := Aside0.mk (below_step (upB0 HB.out) hb); clear hb ho4) | ((with_reducible refine gate_builtin (b := .append) (xs := #[.tmp 5, .tmp 6]) rfl ?_); at_builtin; refine Kd.R_append_rows (Kd.int .i64) (w0 := w) w.heap.size rfl (.tmp 5) (.tmp 6) 56 3 (.int .i64 0) 8 rfl Try.underlying56 info3 rfl (by decide) (by omega) v548 y547 l0 _ _ _ (fun _ => True) (fun _ => False) rfl rfl ?aO ?aR (fun _ _ h => h) (fun _ h => h.elim) ?aF ?aB ?aS ?aL ?_; (case aR => exact upC ((Kd.C_below HR0.out HB.out))); (case aB => exact (upB0 HB.out)); (case aF => exact (fun _ _ => trivial)); (case aO => exact (upR HO549.out)); (case aS => exact (below_size (upB0 HB.out))); (case aL => have := LMc2.out; omega); intro v551 w5 ho hb hg hat; rw [← Ny550.out] at ho; have n0_ := Aside0.mk (hb); have n1_ := Aside0.mk (ho); clear HB; clear HO549; have HB := n0_; have HO552 := n1_; clear n0_ n1_; clear ho hb hg hat))
  go_ret
  exact ⟨_, by first | rfl | (simp [errW_none, errW_some] <;> rfl) | (simp [*, errW_none, errW_some] <;> rfl), by refine upR ?_; exact HO552.out, upB0 HB.out⟩
 ·rw [if_neg c2] at H
  exact absurd H (by simp)

/-! ### machine_own: function 84 -/
def machine_own.f (a0_0 : Int) (l0_1 : List Int) : Option (Int × List Int) := (slices_Clone_int_int.f l0_1).bind fun t555 => (some (a0_0, t555))
set_option maxHeartbeats 8000000 in
set_option maxRecDepth 100000 in
theorem machine_own.calls (a0_0 : Int) (A0_1 : Option Addr) (c0_1 : Nat) (l0_1 : List Int) (r1 : Int) (r2 : List Int) (w : World) (hr0_1 : Kd.C (Kd.int .i64) w A0_1 l0_1.length l0_1) (hc0_1 : l0_1.length ≤ c0_1) (h : machine_own.f a0_0 l0_1 = some (r1, r2)) :
  Calls Try.prog 84 #[.agg #[.int .i64 a0_0, .slice A0_1 l0_1.length c0_1]] w fun e w' => ∃ v1_ : Value, e = .returned (.agg #[.int .i64 r1, v1_]) ∧ Kd.R (Kd.int .i64) 3 w' w.heap.size (fun _ => True) v1_ r2 ∧ Below w.heap.size w w' := by
 have hu67 := Try.underlying67
 have HR0_1 := Aside0.mk hr0_1
 have HC0_1 := Aside0.mk hc0_1
 clear hr0_1 hc0_1
 have HB := Aside0.mk (Below.refl w.heap.size w)
 have H : ((slices_Clone_int_int.f l0_1).bind fun t555 => (some (a0_0, t555))) = some (r1, r2) := h
 clear h
 replace H := Option.bind_eq_some_iff.mp H
 obtain ⟨t555, A20, H⟩ := H
 replace H : (some (a0_0, t555)) = some (r1, r2) := H
 have A2 := Aside0.mk A20
 clear A20
 simp only [Option.some.injEq, Prod.mk.injEq] at H
 obtain ⟨rfl, rfl⟩ := H
 go_enter Try.func84, Try.ntmps84
 go_wp2_with (first | ((with_reducible refine gate_dst (N := 1) rfl ?_); refine box_event ?hg (N := 1) ?hd (cs := #[.int .i64 a0_0, .slice A0_1 l0_1.length c0_1]) (t := 67) ?hr ?_; (case hd => rfl); (case hg => rfl); (case hr => first | (go_simp; done) | (go_simp; rfl)); intro gb553 hg w3 hbox hb; have BK553 := Aside0.mk (hbox); have GW553 := Aside0.mk ((by rw [hg]; exact (below_size (upB0 HB.out)) : w.heap.size ≤ gb553)); have GE553 := Aside0.mk ((by rw [hg]; exact (below_size (upB0 HB.out)) : w.heap.size ≤ gb553)); replace HB := Aside0.mk (below_step (upB0 HB.out) hb); clear hb hbox hg) | ((with_reducible refine gate_dst (N := 2) rfl ?_); refine box_event ?hg (N := 2) ?hd (cs := #[.int .i64 0, .slice none 0 0]) (t := 67) ?hr ?_; (case hd => rfl); (case hg => rfl); (case hr => first | (go_simp; done) | (go_simp; rfl)); intro gb554 hg w4 hbox hb; have BK554 := Aside0.mk (hbox); have GW554 := Aside0.mk ((by rw [hg]; exact (below_size (upB1 HB.out GE553.out)) : w.heap.size ≤ gb554)); have GE554 := Aside0.mk ((by rw [hg]; exact (below_size (upB1 HB.out GE553.out)) : w.heap.size ≤ gb554)); replace HB := Aside0.mk (below_step (upB1 HB.out GE553.out) hb); have NB553_554 := Aside0.mk ((by rw [hg]; exact Nat.ne_of_lt (blk_lt (upK BK553.out)) : gb553 ≠ gb554)); have NB554_553 := Aside0.mk ((by rw [hg]; exact Nat.ne_of_gt (blk_lt (upK BK553.out)) : gb554 ≠ gb553)); replace BK553 := Aside0.mk (blk_below (upK BK553.out) hb); clear hb hbox hg; have hnb5 := NB553_554.out; have hnc5 := NB554_553.out; obtain ⟨hcz6_0, hcz6_1, hfz6_0, hfz6_1⟩ := cells2 BK553.out) | ((with_reducible refine gate_callee (f := 90) rfl ?_); refine goesL_ (some 5) rfl rfl Try.func90 (by kernel_rfl) rfl #[.slice A0_1 l0_1.length c0_1] rfl argA ?_; (with_reducible refine (slices_Clone_int_int.calls _ _ l0_1 t555 _ ?side1 ?side2 A2.out).mono ?_); (case side1 => exact upC ((Kd.C_below HR0_1.out HB.out))); (case side2 => exact HC0_1.out); rintro e w7 ⟨v556, rfl, ho0, hb⟩; refine ⟨_, rfl, ?_⟩; have HO557 := Aside0.mk (Kd.R_lower ho0 (below_size (upB2 HB.out GE553.out GE554.out))); replace BK553 := Aside0.mk (blk_below (upK BK553.out) hb); replace BK554 := Aside0.mk (blk_below (upK BK554.out) hb); replace HB := Aside0.mk (below_step (upB2 HB.out GE553.out GE554.out) hb); (try clear hb); (try clear hb2); (try clear hk); (try clear hi); (try clear ho0); obtain ⟨Ao8, co8, eo8⟩ := Kd.R_slice HO557.out; subst eo8; obtain ⟨hcz9_0, hcz9_1, hfz9_0, hfz9_1⟩ := cells2 BK553.out; obtain ⟨hcz10_0, hcz10_1, hfz10_0, hfz10_1⟩ := cells2 BK554.out))
 refine bodyPost_ret (results_cell_row rfl _ _ gb554 67 #[.int .i64 a0_0, .slice Ao8 t555.length co8] (0, 0) _ rfl (by refine upK ?_; refine blk_put (cs := #[.int .i64 a0_0, .slice none 0 0]) ?_ 1 _ rfl; refine upK ?_; refine blk_put (cs := #[.int .i64 0, .slice none 0 0]) ?_ 0 _ rfl; refine upK ?_; refine blk_far ?_ NB554_553.out _; refine upK ?_; exact BK554.out) Try.underlying67 rfl (by kernel_rfl)) rfl ?_
 exact ⟨_, by first | rfl | (simp [errW_none, errW_some] <;> rfl) | (simp [*, errW_none, errW_some] <;> rfl), by refine upR ?_; exact Kd.R_mono (garR2 (g := gb554) (Kd.R_far (p := ⟨gb553, 1, none⟩) (Kd.R_types (Kd.R_types HO557.out BK553.out (by decide)) BK554.out (by decide)) (fun _ hk => hk.1.2) (.slice Ao8 t555.length co8)) 0 (.int .i64 a0_0) 1 (.slice Ao8 t555.length co8)) (fun _ hk => trivial), upB2 HB.out GE553.out GE554.out⟩

-- NOT PRINTED: function 73 (machine_held)

end Go.Proofs.Ytbmmddngadnofaa.F
