-- Written by ext (this session's own program).
-- in short rows (short.py)
import Derived.Test.YtbmmddngadnofaaFx0
import Derived.Test.YtbmmddngadnofaaFx8
import Derived.Test.YtbmmddngadnofaaFx10
namespace Go.Proofs.Ytbmmddngadnofaa.F
open Go.RowKit Go.Proofs.YtbmmddngadnofaaW.PrintWords Go.Proofs.YtbmmddngadnofaaW.PrintLast Go.Proofs.YtbmmddngadnofaaW.PrintMore
attribute [local go_sem] max2_int min2_int max_two min_two max_three min_three max_four min_four   -- for this text's walks alone
set_option linter.unusedVariables false
set_option linter.unusedSimpArgs false

/-! ### tree_Check: function 32 -/
def tree_Check.f (k : Nat) (l0_0 : List (List Int)) : Option (Int) := if (l0_0.length : Int) = 0 then (some 250) else (if 0 < (l0_0.length : Int) then ((tree_Make.f k (rd_L1 l0_0 0)).bind fun bt156 => (if bt156.2 = 0 then ((tree_Same.f k l0_0 bt156.1).bind fun t161 => (if t161 = true then (some 0) else (some 250))) else (some 250))) else (none))
theorem tree_Check.mono : ∀ a0 k, LeO (tree_Check.f k a0) (tree_Check.f (k + 1) a0) := by
 intro a0 k
 unfold tree_Check.f
 repeat' first
   | (with_reducible exact tree_Make.mono _ _)
   | (with_reducible exact tree_Same.mono _ _ _)
   | (with_reducible exact LeO.refl _)
   | (with_reducible exact LeO.none _)
   | (with_reducible refine LeO.ite ?_ ?_)
   | (with_reducible refine LeO.bind ?_ (fun _ => ?_))
   | exact tree_Make.mono _ _
   | exact tree_Same.mono _ _ _
   | exact LeO.none _
   | refine LeO.ite ?_ ?_
   | refine LeO.bind ?_ (fun _ => ?_)
set_option maxHeartbeats 8000000 in
set_option maxRecDepth 100000 in
theorem tree_Check.calls (k : Nat) (A0_0 : Option Addr) (c0_0 : Nat) (l0_0 : List (List Int)) (r : Int) (w : World) (hr0_0 : Kd.C (Kd.slice 25 (Kd.int .u32)) w A0_0 l0_0.length l0_0) (hc0_0 : l0_0.length ≤ c0_0) (h : tree_Check.f k l0_0 = some r) :
  Calls Try.prog 32 #[.agg #[.slice A0_0 l0_0.length c0_0]] w fun e w' => e = .returned (.int .i64 r) ∧ Below w.heap.size w w' := by
 have hu24 := Try.underlying24
 have HR0_0 := Aside0.mk hr0_0
 have HC0_0 := Aside0.mk hc0_0
 clear hr0_0 hc0_0
 have HB := Aside0.mk (Below.refl w.heap.size w)
 have H : (if (l0_0.length : Int) = 0 then (some 250) else (if 0 < (l0_0.length : Int) then ((tree_Make.f k (rd_L1 l0_0 0)).bind fun bt156 => (if bt156.2 = 0 then ((tree_Same.f k l0_0 bt156.1).bind fun t161 => (if t161 = true then (some 0) else (some 250))) else (some 250))) else (none))) = some r := h
 clear h
 by_cases c2 : (l0_0.length : Int) = 0
 ·rw [if_pos c2] at H
  have c2b0 : ((l0_0.length : Int) == 0) = true := beq_iff_eq.mpr c2
  have c2b1 : ((l0_0.length : Int) != 0) = false := bne_eq_false_iff_eq.mpr c2
  clear c2
  obtain rfl := Option.some.inj H
  go_enter Try.func32, Try.ntmps32
  go_wp2_with (first | ((with_reducible refine gate_dst (N := 1) rfl ?_); refine box_event ?hg (N := 1) ?hd (cs := #[.slice A0_0 l0_0.length c0_0]) (t := 24) ?hr ?_; (case hd => rfl); (case hg => rfl); (case hr => first | (go_simp; done) | (go_simp; rfl)); intro gb154 hg w3 hbox hb; have BK154 := Aside0.mk (hbox); have GW154 := Aside0.mk ((by rw [hg]; exact (below_size (upB0 HB.out)) : w.heap.size ≤ gb154)); have GE154 := Aside0.mk ((by rw [hg]; exact (below_size (upB0 HB.out)) : w.heap.size ≤ gb154)); replace HB := Aside0.mk (below_step (upB0 HB.out) hb); clear hb hbox hg; obtain ⟨hcz4_0, hfz4_0⟩ := cells1 BK154.out))
  go_ret
  exact ⟨by first | rfl | (simp [errW_none, errW_some] <;> rfl) | (simp [*, errW_none, errW_some] <;> rfl), upB1 HB.out GE154.out⟩
 ·rw [if_neg c2] at H
  have c2b0 : ((l0_0.length : Int) == 0) = false := beq_eq_false_iff_ne.mpr c2
  have c2b1 : ((l0_0.length : Int) != 0) = true := bne_iff_ne.mpr c2
  have c2b2 : ¬ (l0_0 = []) := fun h_ => c2 (by rw [h_]; rfl)
  by_cases c5 : 0 < (l0_0.length : Int)
  ·rw [if_pos c5] at H
   have c5b0 : decide (0 < (l0_0.length : Int)) = true := decide_eq_true c5
   have c5b1 : decide (0 < l0_0.length) = true := decide_eq_true (by omega)
   clear c5
   replace H := Option.bind_eq_some_iff.mp H
   obtain ⟨⟨t156, t159⟩, A60, H⟩ := H
   replace H : (if t159 = 0 then ((tree_Same.f k l0_0 t156).bind fun t161 => (if t161 = true then (some 0) else (some 250))) else (some 250)) = some r := H
   have A6 := Aside0.mk A60
   clear A60
   by_cases c7 : t159 = 0
   ·rw [if_pos c7] at H
    have c7b0 : (t159 == 0) = true := beq_iff_eq.mpr c7
    have c7b1 : (t159 != 0) = false := bne_eq_false_iff_eq.mpr c7
    clear c7
    replace H := Option.bind_eq_some_iff.mp H
    obtain ⟨t161, A80, H⟩ := H
    replace H : (if t161 = true then (some 0) else (some 250)) = some r := H
    have A8 := Aside0.mk A80
    clear A80
    by_cases c9 : t161 = true
    ·subst c9
     have H1 : (some 0) = some r := by rw [if_pos rfl] at H; exact H
     clear H
     have H := H1
     clear H1
     obtain rfl := Option.some.inj H
     go_enter Try.func32, Try.ntmps32
     go_wp2_with (first | ((with_reducible refine gate_dst (N := 1) rfl ?_); refine box_event ?hg (N := 1) ?hd (cs := #[.slice A0_0 l0_0.length c0_0]) (t := 24) ?hr ?_; (case hd => rfl); (case hg => rfl); (case hr => first | (go_simp; done) | (go_simp; rfl)); intro gb154 hg w10 hbox hb; have BK154 := Aside0.mk (hbox); have GW154 := Aside0.mk ((by rw [hg]; exact (below_size (upB0 HB.out)) : w.heap.size ≤ gb154)); have GE154 := Aside0.mk ((by rw [hg]; exact (below_size (upB0 HB.out)) : w.heap.size ≤ gb154)); replace HB := Aside0.mk (below_step (upB0 HB.out) hb); clear hb hbox hg; obtain ⟨hcz11_0, hfz11_0⟩ := cells1 BK154.out; have p155 : 0 ≤ (0 : Int) := (by omega); have q155 : 0 < (l0_0.length : Int) := of_decide_eq_true (by first | (with_reducible assumption) | assumption); obtain ⟨ad155, A155_0, c155_0, e155, hx155_0, hl155_0, hi155_0⟩ := at_L1 HR0_0.out 0 p155 q155; cases e155; have qi155 : (0 < l0_0.length) = True := eq_true (by omega); (try rw [show ((0 : Int)).toNat = 0 from rfl] at hx155_0); (try rw [Addr.add_zero'] at hx155_0); replace hx155_0 := (HB.out.cell (World.block_lt_of_cell? w _ hx155_0)).trans hx155_0; have HR155_0 := Aside0.mk hi155_0; have HC155_0 := Aside0.mk hl155_0; clear hi155_0 hl155_0; replace p155 := eq_true p155; replace q155 := eq_true q155) | ((with_reducible refine gate_callee (f := 21) rfl ?_); refine goesL_ (some 14) rfl rfl Try.func21 (by kernel_rfl) rfl #[.slice A155_0 (rd_L1 l0_0 0).length c155_0] rfl argA ?_; (with_reducible refine (tree_Make.calls k _ _ (rd_L1 l0_0 0) t156 t159 _ ?side1 ?side2 A6.out).mono ?_); (case side1 => exact upC ((Kd.C_below HR155_0.out HB.out))); (case side2 => exact HC155_0.out); rintro e w12 ⟨v157, rfl, ho0, hb⟩; refine ⟨_, rfl, ?_⟩; have HO158 := Aside0.mk (Kd.V_lower (Kd.V_mono (ok' := fun k_ => k_ ≠ gb154) ho0 (fun k_ hk_ => (Kd.freshB (upK BK154.out) k_ hk_))) (below_size (upB1 HB.out GE154.out))); replace BK154 := Aside0.mk (blk_below (upK BK154.out) hb); replace HB := Aside0.mk (below_step (upB1 HB.out GE154.out) hb); (try clear hb); (try clear hb2); (try clear hk); (try clear hi); (try clear ho0)) | ((with_reducible refine gate_dst (N := 3) rfl ?_); refine box_event ?hg (N := 3) ?hd (cs := #[.slice none 0 0]) (t := 24) ?hr ?_; (case hd => rfl); (case hg => rfl); (case hr => first | (go_simp; done) | (go_simp; rfl)); intro gb160 hg w13 hbox hb; replace HO158 := Aside0.mk (Kd.V_below (Kd.V_elderB (upV HO158.out) gb160 (Nat.le_of_eq hg.symm)) hb); have BK160 := Aside0.mk (hbox); have GW160 := Aside0.mk ((by rw [hg]; exact (below_size (upB1 HB.out GE154.out)) : w.heap.size ≤ gb160)); have GE160 := Aside0.mk ((by rw [hg]; exact (below_size (upB1 HB.out GE154.out)) : w.heap.size ≤ gb160)); replace HB := Aside0.mk (below_step (upB1 HB.out GE154.out) hb); have NB154_160 := Aside0.mk ((by rw [hg]; exact Nat.ne_of_lt (blk_lt (upK BK154.out)) : gb154 ≠ gb160)); have NB160_154 := Aside0.mk ((by rw [hg]; exact Nat.ne_of_gt (blk_lt (upK BK154.out)) : gb160 ≠ gb154)); replace BK154 := Aside0.mk (blk_below (upK BK154.out) hb); clear hb hbox hg; obtain ⟨Ao14, co14, eo14⟩ := Kd.V_slice HO158.out; subst eo14; have hnb15 := NB160_154.out; have hnc15 := NB154_160.out; obtain ⟨hcz16_0, hfz16_0⟩ := cells1 BK160.out; obtain ⟨hcz17_0, hfz17_0⟩ := cells1 BK154.out) | (go_at_call 34; (with_reducible refine (tree_Same.calls k _ _ l0_0 _ _ t156 true _ ?side1 ?side2 ?side3 ?side4 A8.out).mono ?_); (case side1 => exact Kd.C_below HR0_0.out (upB2 HB.out GE154.out GE160.out)); (case side2 => exact HC0_0.out); (case side3 => refine (Kd.V_reads' (e := 40) (base := w.heap.size) (ok := fun k_ => (k_ ≠ gb154 ∧ k_ ≠ gb160)) (n := t156.length) (c := co14) ?_).2.2; exact (by refine upV ?_; exact (fV1 (Kd.V_mono HO158.out (fun k_ hk => (⟨hk, hk.2⟩ : _ ∧ k_ ≠ gb160)))))); (case side4 => exact (Kd.V_reads' HO158.out).2.1); rintro e w18 ⟨rfl, hb⟩; replace HO158 := Aside0.mk (Kd.V_below (by refine upV ?_; exact (fV1 (Kd.V_mono HO158.out (fun k_ hk => (⟨hk, hk.2⟩ : _ ∧ k_ ≠ gb160))))) hb); replace BK154 := Aside0.mk (blk_below (g := gb154) (o := .cells #[.slice (some ad155) l0_0.length c0_0] 24 (0, 0)) (by refine upK ?_; refine blk_far ?_ NB154_160.out _; refine upK ?_; exact BK154.out) hb); replace BK160 := Aside0.mk (blk_below (g := gb160) (o := .cells #[.slice Ao14 t156.length co14] 24 (0, 0)) (by refine upK ?_; refine blk_put (cs := #[.slice none 0 0]) ?_ 0 _ rfl; refine upK ?_; exact BK160.out) hb); replace HB := Aside0.mk (below_step (upB2 HB.out GE154.out GE160.out) hb); (try clear hb); (try clear hb2); (try clear hk); (try clear hi)))
     go_ret
     exact ⟨by first | rfl | (simp [errW_none, errW_some] <;> rfl) | (simp [*, errW_none, errW_some] <;> rfl), upB2 HB.out GE154.out GE160.out⟩
    ·replace c9 := Bool.eq_false_iff.mpr c9
     subst c9
     have H1 : (some 250) = some r := by rw [if_neg (show ¬ (false = true) by decide)] at H; exact H
     clear H
     have H := H1
     clear H1
     obtain rfl := Option.some.inj H
     go_enter Try.func32, Try.ntmps32
     go_wp2_with (first | ((with_reducible refine gate_dst (N := 1) rfl ?_); refine box_event ?hg (N := 1) ?hd (cs := #[.slice A0_0 l0_0.length c0_0]) (t := 24) ?hr ?_; (case hd => rfl); (case hg => rfl); (case hr => first | (go_simp; done) | (go_simp; rfl)); intro gb154 hg w19 hbox hb; have BK154 := Aside0.mk (hbox); have GW154 := Aside0.mk ((by rw [hg]; exact (below_size (upB0 HB.out)) : w.heap.size ≤ gb154)); have GE154 := Aside0.mk ((by rw [hg]; exact (below_size (upB0 HB.out)) : w.heap.size ≤ gb154)); replace HB := Aside0.mk (below_step (upB0 HB.out) hb); clear hb hbox hg; obtain ⟨hcz20_0, hfz20_0⟩ := cells1 BK154.out; have p155 : 0 ≤ (0 : Int) := (by omega); have q155 : 0 < (l0_0.length : Int) := of_decide_eq_true (by first | (with_reducible assumption) | assumption); obtain ⟨ad155, A155_0, c155_0, e155, hx155_0, hl155_0, hi155_0⟩ := at_L1 HR0_0.out 0 p155 q155; cases e155; have qi155 : (0 < l0_0.length) = True := eq_true (by omega); (try rw [show ((0 : Int)).toNat = 0 from rfl] at hx155_0); (try rw [Addr.add_zero'] at hx155_0); replace hx155_0 := (HB.out.cell (World.block_lt_of_cell? w _ hx155_0)).trans hx155_0; have HR155_0 := Aside0.mk hi155_0; have HC155_0 := Aside0.mk hl155_0; clear hi155_0 hl155_0; replace p155 := eq_true p155; replace q155 := eq_true q155) | ((with_reducible refine gate_callee (f := 21) rfl ?_); refine goesL_ (some 14) rfl rfl Try.func21 (by kernel_rfl) rfl #[.slice A155_0 (rd_L1 l0_0 0).length c155_0] rfl argA ?_; (with_reducible refine (tree_Make.calls k _ _ (rd_L1 l0_0 0) t156 t159 _ ?side1 ?side2 A6.out).mono ?_); (case side1 => exact upC ((Kd.C_below HR155_0.out HB.out))); (case side2 => exact HC155_0.out); rintro e w21 ⟨v157, rfl, ho0, hb⟩; refine ⟨_, rfl, ?_⟩; have HO158 := Aside0.mk (Kd.V_lower (Kd.V_mono (ok' := fun k_ => k_ ≠ gb154) ho0 (fun k_ hk_ => (Kd.freshB (upK BK154.out) k_ hk_))) (below_size (upB1 HB.out GE154.out))); replace BK154 := Aside0.mk (blk_below (upK BK154.out) hb); replace HB := Aside0.mk (below_step (upB1 HB.out GE154.out) hb); (try clear hb); (try clear hb2); (try clear hk); (try clear hi); (try clear ho0)) | ((with_reducible refine gate_dst (N := 3) rfl ?_); refine box_event ?hg (N := 3) ?hd (cs := #[.slice none 0 0]) (t := 24) ?hr ?_; (case hd => rfl); (case hg => rfl); (case hr => first | (go_simp; done) | (go_simp; rfl)); intro gb160 hg w22 hbox hb; replace HO158 := Aside0.mk (Kd.V_below (Kd.V_elderB (upV HO158.out) gb160 (Nat.le_of_eq hg.symm)) hb); have BK160 := Aside0.mk (hbox); have GW160 := Aside0.mk ((by rw [hg]; exact (below_size (upB1 HB.out GE154.out)) : w.heap.size ≤ gb160)); have GE160 := Aside0.mk ((by rw [hg]; exact (below_size (upB1 HB.out GE154.out)) : w.heap.size ≤ gb160)); replace HB := Aside0.mk (below_step (upB1 HB.out GE154.out) hb); have NB154_160 := Aside0.mk ((by rw [hg]; exact Nat.ne_of_lt (blk_lt (upK BK154.out)) : gb154 ≠ gb160)); have NB160_154 := Aside0.mk ((by rw [hg]; exact Nat.ne_of_gt (blk_lt (upK BK154.out)) : gb160 ≠ gb154)); replace BK154 := Aside0.mk (blk_below (upK BK154.out) hb); clear hb hbox hg; obtain ⟨Ao23, co23, eo23⟩ := Kd.V_slice HO158.out; subst eo23; have hnb24 := NB160_154.out; have hnc24 := NB154_160.out; obtain ⟨hcz25_0, hfz25_0⟩ := cells1 BK160.out; obtain ⟨hcz26_0, hfz26_0⟩ := cells1 BK154.out) | (go_at_call 34; (with_reducible refine (tree_Same.calls k _ _ l0_0 _ _ t156 false _ ?side1 ?side2 ?side3 ?side4 A8.out).mono ?_); (case side1 => exact Kd.C_below HR0_0.out (upB2 HB.out GE154.out GE160.out)); (case side2 => exact HC0_0.out); (case side3 => refine (Kd.V_reads' (e := 40) (base := w.heap.size) (ok := fun k_ => (k_ ≠ gb154 ∧ k_ ≠ gb160)) (n := t156.length) (c := co23) ?_).2.2; exact (by refine upV ?_; exact (fV1 (Kd.V_mono HO158.out (fun k_ hk => (⟨hk, hk.2⟩ : _ ∧ k_ ≠ gb160)))))); (case side4 => exact (Kd.V_reads' HO158.out).2.1); rintro e w27 ⟨rfl, hb⟩; replace HO158 := Aside0.mk (Kd.V_below (by refine upV ?_; exact (fV1 (Kd.V_mono HO158.out (fun k_ hk => (⟨hk, hk.2⟩ : _ ∧ k_ ≠ gb160))))) hb); replace BK154 := Aside0.mk (blk_below (g := gb154) (o := .cells #[.slice (some ad155) l0_0.length c0_0] 24 (0, 0)) (by refine upK ?_; refine blk_far ?_ NB154_160.out _; refine upK ?_; exact BK154.out) hb); replace BK160 := Aside0.mk (blk_below (g := gb160) (o := .cells #[.slice Ao23 t156.length co23] 24 (0, 0)) (by refine upK ?_; refine blk_put (cs := #[.slice none 0 0]) ?_ 0 _ rfl; refine upK ?_; exact BK160.out) hb); replace HB := Aside0.mk (below_step (upB2 HB.out GE154.out GE160.out) hb); (try clear hb); (try clear hb2); (try clear hk); (try clear hi)))
     go_ret
     exact ⟨by first | rfl | (simp [errW_none, errW_some] <;> rfl) | (simp [*, errW_none, errW_some] <;> rfl), upB2 HB.out GE154.out GE160.out⟩
   ·rw [if_neg c7] at H
    have c7b0 : (t159 == 0) = false := beq_eq_false_iff_ne.mpr c7
    have c7b1 : (t159 != 0) = true := bne_iff_ne.mpr c7
    obtain rfl := Option.some.inj H
    go_enter Try.func32, Try.ntmps32
    go_wp2_with (first | ((with_reducible refine gate_dst (N := 1) rfl ?_); refine box_event ?hg (N := 1) ?hd (cs := #[.slice A0_0 l0_0.length c0_0]) (t := 24) ?hr ?_; (case hd => rfl); (case hg => rfl); (case hr => first | (go_simp; done) | (go_simp; rfl)); intro gb154 hg w28 hbox hb; have BK154 := Aside0.mk (hbox); have GW154 := Aside0.mk ((by rw [hg]; exact (below_size (upB0 HB.out)) : w.heap.size ≤ gb154)); have GE154 := Aside0.mk ((by rw [hg]; exact (below_size (upB0 HB.out)) : w.heap.size ≤ gb154)); replace HB := Aside0.mk (below_step (upB0 HB.out) hb); clear hb hbox hg; obtain ⟨hcz29_0, hfz29_0⟩ := cells1 BK154.out; have p155 : 0 ≤ (0 : Int) := (by omega); have q155 : 0 < (l0_0.length : Int) := of_decide_eq_true (by first | (with_reducible assumption) | assumption); obtain ⟨ad155, A155_0, c155_0, e155, hx155_0, hl155_0, hi155_0⟩ := at_L1 HR0_0.out 0 p155 q155; cases e155; have qi155 : (0 < l0_0.length) = True := eq_true (by omega); (try rw [show ((0 : Int)).toNat = 0 from rfl] at hx155_0); (try rw [Addr.add_zero'] at hx155_0); replace hx155_0 := (HB.out.cell (World.block_lt_of_cell? w _ hx155_0)).trans hx155_0; have HR155_0 := Aside0.mk hi155_0; have HC155_0 := Aside0.mk hl155_0; clear hi155_0 hl155_0; replace p155 := eq_true p155; replace q155 := eq_true q155) | ((with_reducible refine gate_callee (f := 21) rfl ?_); refine goesL_ (some 14) rfl rfl Try.func21 (by kernel_rfl) rfl #[.slice A155_0 (rd_L1 l0_0 0).length c155_0] rfl argA ?_; (with_reducible refine (tree_Make.calls k _ _ (rd_L1 l0_0 0) t156 t159 _ ?side1 ?side2 A6.out).mono ?_); (case side1 => exact upC ((Kd.C_below HR155_0.out HB.out))); (case side2 => exact HC155_0.out); rintro e w30 ⟨v157, rfl, ho0, hb⟩; refine ⟨_, rfl, ?_⟩; have HO158 := Aside0.mk (Kd.V_lower (Kd.V_mono (ok' := fun k_ => k_ ≠ gb154) ho0 (fun k_ hk_ => (Kd.freshB (upK BK154.out) k_ hk_))) (below_size (upB1 HB.out GE154.out))); replace BK154 := Aside0.mk (blk_below (upK BK154.out) hb); replace HB := Aside0.mk (below_step (upB1 HB.out GE154.out) hb); (try clear hb); (try clear hb2); (try clear hk); (try clear hi); (try clear ho0)) | ((with_reducible refine gate_dst (N := 3) rfl ?_); refine box_event ?hg (N := 3) ?hd (cs := #[.slice none 0 0]) (t := 24) ?hr ?_; (case hd => rfl); (case hg => rfl); (case hr => first | (go_simp; done) | (go_simp; rfl)); intro gb160 hg w31 hbox hb; replace HO158 := Aside0.mk (Kd.V_below (Kd.V_elderB (upV HO158.out) gb160 (Nat.le_of_eq hg.symm)) hb); have BK160 := Aside0.mk (hbox); have GW160 := Aside0.mk ((by rw [hg]; exact (below_size (upB1 HB.out GE154.out)) : w.heap.size ≤ gb160)); have GE160 := Aside0.mk ((by rw [hg]; exact (below_size (upB1 HB.out GE154.out)) : w.heap.size ≤ gb160)); replace HB := Aside0.mk (below_step (upB1 HB.out GE154.out) hb); have NB154_160 := Aside0.mk ((by rw [hg]; exact Nat.ne_of_lt (blk_lt (upK BK154.out)) : gb154 ≠ gb160)); have NB160_154 := Aside0.mk ((by rw [hg]; exact Nat.ne_of_gt (blk_lt (upK BK154.out)) : gb160 ≠ gb154)); replace BK154 := Aside0.mk (blk_below (upK BK154.out) hb); clear hb hbox hg; obtain ⟨Ao32, co32, eo32⟩ := Kd.V_slice HO158.out; subst eo32; have hnb33 := NB160_154.out; have hnc33 := NB154_160.out; obtain ⟨hcz34_0, hfz34_0⟩ := cells1 BK160.out))
    go_ret
    exact ⟨by first | rfl | (simp [errW_none, errW_some] <;> rfl) | (simp [*, errW_none, errW_some] <;> rfl), upB2 HB.out GE154.out GE160.out⟩
  ·rw [if_neg c5] at H
   exact absurd H (by simp)

/-! ### tree_at: function 42 -/
def tree_at.f (k : Nat) (l0_0 : List (List Int)) (a1 : Int) : Option (Int) := (tree_Check.f k l0_0).bind fun t163 => (if t163 = 0 then (if a1 < 0 then (some 5) else (if 0 < (l0_0.length : Int) then (if a1 ≥ ((rd_L1 l0_0 0).length : Int) then (some 5) else (some 0)) else (none))) else (some t163))
theorem tree_at.mono : ∀ a0 a1 k, LeO (tree_at.f k a0 a1) (tree_at.f (k + 1) a0 a1) := by
 intro a0 a1 k
 unfold tree_at.f
 repeat' first
   | (with_reducible exact tree_Check.mono _ _)
   | (with_reducible exact LeO.refl _)
   | (with_reducible exact LeO.none _)
   | (with_reducible refine LeO.ite ?_ ?_)
   | (with_reducible refine LeO.bind ?_ (fun _ => ?_))
   | exact tree_Check.mono _ _
   | exact LeO.none _
   | refine LeO.ite ?_ ?_
   | refine LeO.bind ?_ (fun _ => ?_)
set_option maxHeartbeats 8000000 in
set_option maxRecDepth 100000 in
theorem tree_at.calls (k : Nat) (A0_0 : Option Addr) (c0_0 : Nat) (l0_0 : List (List Int)) (a1 : Int) (r : Int) (w : World) (hr0_0 : Kd.C (Kd.slice 25 (Kd.int .u32)) w A0_0 l0_0.length l0_0) (hc0_0 : l0_0.length ≤ c0_0) (h : tree_at.f k l0_0 a1 = some r) :
  Calls Try.prog 42 #[.agg #[.slice A0_0 l0_0.length c0_0], .int .i64 a1] w fun e w' => e = .returned (.int .i64 r) ∧ Below w.heap.size w w' := by
 have hu24 := Try.underlying24
 have HR0_0 := Aside0.mk hr0_0
 have HC0_0 := Aside0.mk hc0_0
 clear hr0_0 hc0_0
 have HB := Aside0.mk (Below.refl w.heap.size w)
 have H : ((tree_Check.f k l0_0).bind fun t163 => (if t163 = 0 then (if a1 < 0 then (some 5) else (if 0 < (l0_0.length : Int) then (if a1 ≥ ((rd_L1 l0_0 0).length : Int) then (some 5) else (some 0)) else (none))) else (some t163))) = some r := h
 clear h
 replace H := Option.bind_eq_some_iff.mp H
 obtain ⟨t163, A30, H⟩ := H
 replace H : (if t163 = 0 then (if a1 < 0 then (some 5) else (if 0 < (l0_0.length : Int) then (if a1 ≥ ((rd_L1 l0_0 0).length : Int) then (some 5) else (some 0)) else (none))) else (some t163)) = some r := H
 have A3 := Aside0.mk A30
 clear A30
 by_cases c4 : t163 = 0
 ·rw [if_pos c4] at H
  have c4b0 : (t163 == 0) = true := beq_iff_eq.mpr c4
  have c4b1 : (t163 != 0) = false := bne_eq_false_iff_eq.mpr c4
  clear c4
  by_cases c5 : a1 < 0
  ·rw [if_pos c5] at H
   have c5b0 : decide (a1 < 0) = true := decide_eq_true c5
   clear c5
   obtain rfl := Option.some.inj H
   go_enter Try.func42, Try.ntmps42
   go_wp2_with (first | ((with_reducible refine gate_dst (N := 2) rfl ?_); (try (refine gate_guard (by rfl) ?_; dsimp only)); refine box_event ?hg (N := 2) ?hd (cs := #[.slice A0_0 l0_0.length c0_0]) (t := 24) ?hr ?_; (case hd => rfl); (case hg => rfl); (case hr => first | (go_simp; done) | (go_simp; rfl)); intro gb162 hg w6 hbox hb; have BK162 := Aside0.mk (hbox); have GW162 := Aside0.mk ((by rw [hg]; exact (below_size (upB0 HB.out)) : w.heap.size ≤ gb162)); have GE162 := Aside0.mk ((by rw [hg]; exact (below_size (upB0 HB.out)) : w.heap.size ≤ gb162)); replace HB := Aside0.mk (below_step (upB0 HB.out) hb); clear hb hbox hg; obtain ⟨hcz7_0, hfz7_0⟩ := cells1 BK162.out) | ((with_reducible refine gate_callee (f := 32) rfl ?_); refine goesL_ (some 7) rfl rfl Try.func32 (by kernel_rfl) rfl #[.agg #[.slice A0_0 l0_0.length c0_0]] rfl argA ?_; (with_reducible refine (tree_Check.calls k _ _ l0_0 t163 _ ?side1 ?side2 A3.out).mono ?_); (case side1 => exact upC ((Kd.C_below HR0_0.out HB.out))); (case side2 => exact HC0_0.out); rintro e w8 ⟨rfl, hb⟩; refine ⟨_, rfl, ?_⟩; replace BK162 := Aside0.mk (blk_below (upK BK162.out) hb); replace HB := Aside0.mk (below_step (upB1 HB.out GE162.out) hb); (try clear hb); (try clear hb2); (try clear hk); (try clear hi)))
   go_ret
   exact ⟨by first | rfl | (simp [errW_none, errW_some] <;> rfl) | (simp [*, errW_none, errW_some] <;> rfl), upB1 HB.out GE162.out⟩
  ·rw [if_neg c5] at H
   have c5b0 : decide (a1 < 0) = false := decide_eq_false c5
   clear c5
   by_cases c9 : 0 < (l0_0.length : Int)
   ·rw [if_pos c9] at H
    have c9b0 : decide (0 < (l0_0.length : Int)) = true := decide_eq_true c9
    have c9b1 : decide (0 < l0_0.length) = true := decide_eq_true (by omega)
    clear c9
    by_cases c10 : a1 ≥ ((rd_L1 l0_0 0).length : Int)
    ·rw [if_pos c10] at H
     have c10b0 : decide (((rd_L1 l0_0 0).length : Int) ≤ a1) = true := decide_eq_true c10
     clear c10
     obtain rfl := Option.some.inj H
     go_enter Try.func42, Try.ntmps42
     go_wp2_with (first | ((with_reducible refine gate_dst (N := 2) rfl ?_); (try (refine gate_guard (by rfl) ?_; dsimp only)); refine box_event ?hg (N := 2) ?hd (cs := #[.slice A0_0 l0_0.length c0_0]) (t := 24) ?hr ?_; (case hd => rfl); (case hg => rfl); (case hr => first | (go_simp; done) | (go_simp; rfl)); intro gb162 hg w11 hbox hb; have BK162 := Aside0.mk (hbox); have GW162 := Aside0.mk ((by rw [hg]; exact (below_size (upB0 HB.out)) : w.heap.size ≤ gb162)); have GE162 := Aside0.mk ((by rw [hg]; exact (below_size (upB0 HB.out)) : w.heap.size ≤ gb162)); replace HB := Aside0.mk (below_step (upB0 HB.out) hb); clear hb hbox hg; obtain ⟨hcz12_0, hfz12_0⟩ := cells1 BK162.out) | ((with_reducible refine gate_callee (f := 32) rfl ?_); refine goesL_ (some 7) rfl rfl Try.func32 (by kernel_rfl) rfl #[.agg #[.slice A0_0 l0_0.length c0_0]] rfl argA ?_; (with_reducible refine (tree_Check.calls k _ _ l0_0 t163 _ ?side1 ?side2 A3.out).mono ?_); (case side1 => exact upC ((Kd.C_below HR0_0.out HB.out))); (case side2 => exact HC0_0.out); rintro e w13 ⟨rfl, hb⟩; refine ⟨_, rfl, ?_⟩; replace BK162 := Aside0.mk (blk_below (upK BK162.out) hb); replace HB := Aside0.mk (below_step (upB1 HB.out GE162.out) hb); (try clear hb); (try clear hb2); (try clear hk); (try clear hi); obtain ⟨hcz14_0, hfz14_0⟩ := cells1 BK162.out; have p164 : 0 ≤ (0 : Int) := (by omega); have q164 : 0 < (l0_0.length : Int) := of_decide_eq_true (by first | (with_reducible assumption) | assumption); obtain ⟨ad164, A164_0, c164_0, e164, hx164_0, hl164_0, hi164_0⟩ := at_L1 HR0_0.out 0 p164 q164; cases e164; have qi164 : (0 < l0_0.length) = True := eq_true (by omega); (try rw [show ((0 : Int)).toNat = 0 from rfl] at hx164_0); (try rw [Addr.add_zero'] at hx164_0); replace hx164_0 := (HB.out.cell (World.block_lt_of_cell? w _ hx164_0)).trans hx164_0; have HR164_0 := Aside0.mk hi164_0; have HC164_0 := Aside0.mk hl164_0; clear hi164_0 hl164_0; replace p164 := eq_true p164; replace q164 := eq_true q164))
     go_ret
     exact ⟨by first | rfl | (simp [errW_none, errW_some] <;> rfl) | (simp [*, errW_none, errW_some] <;> rfl), upB1 HB.out GE162.out⟩
    ·rw [if_neg c10] at H
     have c10b0 : decide (((rd_L1 l0_0 0).length : Int) ≤ a1) = false := decide_eq_false c10
     clear c10
     obtain rfl := Option.some.inj H
     go_enter Try.func42, Try.ntmps42
     go_wp2_with (first | ((with_reducible refine gate_dst (N := 2) rfl ?_); (try (refine gate_guard (by rfl) ?_; dsimp only)); refine box_event ?hg (N := 2) ?hd (cs := #[.slice A0_0 l0_0.length c0_0]) (t := 24) ?hr ?_; (case hd => rfl); (case hg => rfl); (case hr => first | (go_simp; done) | (go_simp; rfl)); intro gb162 hg w15 hbox hb; have BK162 := Aside0.mk (hbox); have GW162 := Aside0.mk ((by rw [hg]; exact (below_size (upB0 HB.out)) : w.heap.size ≤ gb162)); have GE162 := Aside0.mk ((by rw [hg]; exact (below_size (upB0 HB.out)) : w.heap.size ≤ gb162)); replace HB := Aside0.mk (below_step (upB0 HB.out) hb); clear hb hbox hg; obtain ⟨hcz16_0, hfz16_0⟩ := cells1 BK162.out) | ((with_reducible refine gate_callee (f := 32) rfl ?_); refine goesL_ (some 7) rfl rfl Try.func32 (by kernel_rfl) rfl #[.agg #[.slice A0_0 l0_0.length c0_0]] rfl argA ?_; (with_reducible refine (tree_Check.calls k _ _ l0_0 t163 _ ?side1 ?side2 A3.out).mono ?_); (case side1 => exact upC ((Kd.C_below HR0_0.out HB.out))); (case side2 => exact HC0_0.out); rintro e w17 ⟨rfl, hb⟩; refine ⟨_, rfl, ?_⟩; replace BK162 := Aside0.mk (blk_below (upK BK162.out) hb); replace HB := Aside0.mk (below_step (upB1 HB.out GE162.out) hb); (try clear hb); (try clear hb2); (try clear hk); (try clear hi); obtain ⟨hcz18_0, hfz18_0⟩ := cells1 BK162.out; have p164 : 0 ≤ (0 : Int) := (by omega); have q164 : 0 < (l0_0.length : Int) := of_decide_eq_true (by first | (with_reducible assumption) | assumption); obtain ⟨ad164, A164_0, c164_0, e164, hx164_0, hl164_0, hi164_0⟩ := at_L1 HR0_0.out 0 p164 q164; cases e164; have qi164 : (0 < l0_0.length) = True := eq_true (by omega); (try rw [show ((0 : Int)).toNat = 0 from rfl] at hx164_0); (try rw [Addr.add_zero'] at hx164_0); replace hx164_0 := (HB.out.cell (World.block_lt_of_cell? w _ hx164_0)).trans hx164_0; have HR164_0 := Aside0.mk hi164_0; have HC164_0 := Aside0.mk hl164_0; clear hi164_0 hl164_0; replace p164 := eq_true p164; replace q164 := eq_true q164))
     go_ret
     exact ⟨by first | rfl | (simp [errW_none, errW_some] <;> rfl) | (simp [*, errW_none, errW_some] <;> rfl), upB1 HB.out GE162.out⟩
   ·rw [if_neg c9] at H
    exact absurd H (by simp)
 ·rw [if_neg c4] at H
  have c4b0 : (t163 == 0) = false := beq_eq_false_iff_ne.mpr c4
  have c4b1 : (t163 != 0) = true := bne_iff_ne.mpr c4
  obtain rfl := Option.some.inj H
  go_enter Try.func42, Try.ntmps42
  go_wp2_with (first | ((with_reducible refine gate_dst (N := 2) rfl ?_); (try (refine gate_guard (by rfl) ?_; dsimp only)); refine box_event ?hg (N := 2) ?hd (cs := #[.slice A0_0 l0_0.length c0_0]) (t := 24) ?hr ?_; (case hd => rfl); (case hg => rfl); (case hr => first | (go_simp; done) | (go_simp; rfl)); intro gb162 hg w19 hbox hb; have BK162 := Aside0.mk (hbox); have GW162 := Aside0.mk ((by rw [hg]; exact (below_size (upB0 HB.out)) : w.heap.size ≤ gb162)); have GE162 := Aside0.mk ((by rw [hg]; exact (below_size (upB0 HB.out)) : w.heap.size ≤ gb162)); replace HB := Aside0.mk (below_step (upB0 HB.out) hb); clear hb hbox hg; obtain ⟨hcz20_0, hfz20_0⟩ := cells1 BK162.out) | ((with_reducible refine gate_callee (f := 32) rfl ?_); refine goesL_ (some 7) rfl rfl Try.func32 (by kernel_rfl) rfl #[.agg #[.slice A0_0 l0_0.length c0_0]] rfl argA ?_; (with_reducible refine (tree_Check.calls k _ _ l0_0 t163 _ ?side1 ?side2 A3.out).mono ?_); (case side1 => exact upC ((Kd.C_below HR0_0.out HB.out))); (case side2 => exact HC0_0.out); rintro e w21 ⟨rfl, hb⟩; refine ⟨_, rfl, ?_⟩; replace BK162 := Aside0.mk (blk_below (upK BK162.out) hb); replace HB := Aside0.mk (below_step (upB1 HB.out GE162.out) hb); (try clear hb); (try clear hb2); (try clear hk); (try clear hi)))
  go_ret
  exact ⟨by first | rfl | (simp [errW_none, errW_some] <;> rfl) | (simp [*, errW_none, errW_some] <;> rfl), upB1 HB.out GE162.out⟩

/-! ### tree_row: function 43 -/
def tree_row.f (l0 : List Int) (a1 : Int) : Option (List Int × Int) := if 0 ≤ (wrap64 (a1 - (Int.tmod a1 4))) then (if (wrap64 (a1 - (Int.tmod a1 4))) ≤ (mn (wrap64 ((wrap64 (a1 - (Int.tmod a1 4))) + 4)) (l0.length : Int)) then (if (mn (wrap64 ((wrap64 (a1 - (Int.tmod a1 4))) + 4)) (l0.length : Int)) ≤ (l0.length : Int) then (some (((l0.take ((mn (wrap64 ((wrap64 (a1 - (Int.tmod a1 4))) + 4)) (l0.length : Int)) : Int).toNat).drop ((wrap64 (a1 - (Int.tmod a1 4))) : Int).toNat), wrap64 (a1 - (Int.tmod a1 4)))) else (none)) else (none)) else (none)
set_option maxHeartbeats 8000000 in
set_option maxRecDepth 100000 in
theorem tree_row.calls (P0_ : Nat → Prop) (A0 : Option Addr) (c0 : Nat) (l0 : List Int) (a1 : Int) (r1 : List Int) (r2 : Int) (w : World) (hs0 : Kd.V (Kd.int .u32) 25 w w.heap.size (fun k_ => P0_ k_) (.slice A0 l0.length c0) l0) (h : tree_row.f l0 a1 = some (r1, r2)) :
  Calls Try.prog 43 #[.slice A0 l0.length c0, .int .i64 a1] w fun e w' => ∃ v0_ : Value, e = .returned (.tuple #[v0_, .int .i64 r2]) ∧ Kd.V (Kd.int .u32) 25 w' w.heap.size (fun k_ => (P0_ k_ ∨ w.heap.size ≤ k_)) v0_ r1 ∧ Below w.heap.size w w' := by
 have HO0 := Aside0.mk (show Kd.V (Kd.int .u32) 25 w w.heap.size (fun k_ => (P0_ k_ ∨ w.heap.size ≤ k_)) (.slice A0 l0.length c0) l0 from Kd.V_mono hs0 (fun k_ hk => .inl hk))
 have HB := Aside0.mk (Below.refl w.heap.size w)
 have H : (if 0 ≤ (wrap64 (a1 - (Int.tmod a1 4))) then (if (wrap64 (a1 - (Int.tmod a1 4))) ≤ (mn (wrap64 ((wrap64 (a1 - (Int.tmod a1 4))) + 4)) (l0.length : Int)) then (if (mn (wrap64 ((wrap64 (a1 - (Int.tmod a1 4))) + 4)) (l0.length : Int)) ≤ (l0.length : Int) then (some (((l0.take ((mn (wrap64 ((wrap64 (a1 - (Int.tmod a1 4))) + 4)) (l0.length : Int)) : Int).toNat).drop ((wrap64 (a1 - (Int.tmod a1 4))) : Int).toNat), wrap64 (a1 - (Int.tmod a1 4)))) else (none)) else (none)) else (none)) = some (r1, r2) := h
 clear h
 obtain ⟨ji3, hji3⟩ : ∃ j_ : Int, (mn (wrap64 ((wrap64 (a1 - (Int.tmod a1 4))) + 4)) (l0.length : Int)) = j_ := ⟨_, rfl⟩
 replace H : (if 0 ≤ (wrap64 (a1 - (Int.tmod a1 4))) then (if (wrap64 (a1 - (Int.tmod a1 4))) ≤ (ji3) then (if (ji3) ≤ (l0.length : Int) then (some (((l0.take ((ji3) : Int).toNat).drop ((wrap64 (a1 - (Int.tmod a1 4))) : Int).toNat), wrap64 (a1 - (Int.tmod a1 4)))) else (none)) else (none)) else (none)) = some (r1, r2) := by first | (rw [hji3] at H; exact H) | (simp only [hji3] at H ⊢; exact H)
 have hji3_ : (if (l0.length : Int) < (wrap64 ((wrap64 (a1 - (Int.tmod a1 4))) + 4)) then (l0.length : Int) else (wrap64 ((wrap64 (a1 - (Int.tmod a1 4))) + 4))) = ji3 := hji3
 obtain ⟨ji4, hji4⟩ : ∃ j_ : Int, (wrap64 (a1 - (Int.tmod a1 4))) = j_ := ⟨_, rfl⟩
 replace H : (if 0 ≤ (ji4) then (if (ji4) ≤ (ji3) then (if (ji3) ≤ (l0.length : Int) then (some (((l0.take ((ji3) : Int).toNat).drop ((ji4) : Int).toNat), ji4)) else (none)) else (none)) else (none)) = some (r1, r2) := by first | (rw [hji4] at H; exact H) | (simp only [hji4] at H ⊢; exact H)
 have hji4w : (IntKind.i64.wrap (a1 - (Int.tmod a1 4))) = ji4 := (i64_w _).trans hji4
 (try simp only [hji4] at hji3)
 (try simp only [hji4] at hji3_)
 by_cases c5 : 0 ≤ (ji4)
 ·rw [if_pos c5] at H
  have c5b0 := eq_true c5
  have c5b1 : decide (0 ≤ (ji4)) = true := decide_eq_true c5
  clear c5
  by_cases c6 : (ji4) ≤ (ji3)
  ·rw [if_pos c6] at H
   have c6b0 := eq_true c6
   have c6b1 : decide ((ji4) ≤ (ji3)) = true := decide_eq_true c6
   clear c6
   by_cases c7 : (ji3) ≤ (l0.length : Int)
   ·rw [if_pos c7] at H
    have c7b0 := eq_true c7
    have c7b1 : decide ((ji3) ≤ (l0.length : Int)) = true := decide_eq_true c7
    clear c7
    obtain ⟨y165, hy165⟩ : ∃ y_ : List Int, y_ = ((l0.take ((ji3) : Int).toNat).drop ((ji4) : Int).toNat) := ⟨_, rfl⟩
    replace H : (some (y165, ji4)) = some (r1, r2) := by first | (rw [hy165]; with_reducible exact H) | (have H2_ := (Option.bind_some _ _).symm.trans H; rw [hy165]; with_reducible exact H2_) | (have H2_ := (Option.bind_some _ _).symm.trans H; with_reducible exact H2_) | with_reducible exact H | (rw [hy165]; exact H) | exact H
    have Ny165 := Aside0.mk hy165
    clear hy165
    simp only [Option.some.injEq, Prod.mk.injEq] at H
    obtain ⟨rfl, rfl⟩ := H
    have q8 : ((ji3) : Int) ≤ ((l0.length : Int) : Int) := of_decide_eq_true (by first | (with_reducible assumption) | assumption)
    obtain ⟨i08, hi08, _, hsz8, _⟩ := info_parts info25
    have hroom8 : l0.length ≤ c0 := (Kd.V_reads' HO0.out).2.1
    have hC8 : Kd.F (Kd.int .u32) _ _ A0 l0.length l0 := (Kd.V_at (base := w.heap.size) HO0.out).2.2
    have ql8 : ((ji4) : Int) ≤ ((ji3) : Int) := of_decide_eq_true (by first | (with_reducible assumption) | assumption)
    have q08 : (0 : Int) ≤ ((ji4) : Int) := of_decide_eq_true (by first | (with_reducible assumption) | assumption)
    have hcut8 := cut_mid (P := Try.prog) 40 25 .i64 .i64 Try.underlying40 hi08 1 hsz8 A0 l0.length c0 (ji4) (ji3) q08 ql8 q8 hroom8
    have hr8 := Kd.F_mid (lo := ((ji4) : Int).toNat) (hi := ((ji3) : Int).toNat) (c := c0) hC8 (by omega) (by omega) hroom8
    obtain ⟨A8, hA8⟩ : ∃ A1, A1 = (if c0 = ((ji4) : Int).toNat then A0 else (A0 : Option Addr).map (·.add (((ji4) : Int).toNat * 1))) := ⟨_, rfl⟩
    obtain ⟨c8, hc8⟩ : ∃ c1, c1 = c0 - ((ji4) : Int).toNat := ⟨_, rfl⟩
    have hy8 : y165.length = ((ji3) : Int).toNat - ((ji4) : Int).toNat := (by rw [Ny165.out, List.length_drop, List.length_take] <;> omega)
    rw [show ((l0).take ((ji3) : Int).toNat).drop ((ji4) : Int).toNat = y165 from Ny165.out.symm] at hr8
    replace hr8 : Kd.F (Kd.int .u32) _ _ A8 y165.length y165 := (by rw [hA8]; exact hr8)
    rw [← hy8, ← hA8, ← hc8] at hcut8
    have HO169 := Aside0.mk (show Kd.V (Kd.int .u32) 25 _ w.heap.size _ (.slice A8 y165.length c8) y165 from Kd.V_mk (by rw [hy8, hc8]; exact Nat.sub_le_sub_right (Nat.le_trans (by omega) hroom8) _) hr8)
    have HC169 := Aside0.mk (show y165.length ≤ c8 from by rw [hy8, hc8]; exact Nat.sub_le_sub_right (Nat.le_trans (by omega) hroom8) _)
    clear hr8 hC8 hroom8 hi08 hsz8 hc8
    have KY8 := Aside0.mk hy8
    have KA8 := Aside0.mk hA8
    clear hy8 hA8
    replace q8 := eq_true q8
    go_enter Try.func43, Try.ntmps43
    go_wp2
    go_ret2
    exact ⟨_, by first | rfl | (simp [errW_none, errW_some] <;> rfl) | (simp only [← hji3, ← hji4]; first | rfl | (simp [errW_none, errW_some] <;> rfl)) | (simp [*, errW_none, errW_some] <;> rfl), by refine upV ?_; exact HO169.out, upB0 HB.out⟩
   ·rw [if_neg c7] at H
    exact absurd H (by simp)
  ·rw [if_neg c6] at H
   exact absurd H (by simp)
 ·rw [if_neg c5] at H
  exact absurd H (by simp)

end Go.Proofs.Ytbmmddngadnofaa.F
