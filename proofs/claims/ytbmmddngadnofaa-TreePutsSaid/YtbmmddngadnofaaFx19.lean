-- Written by ext (this session's own program).
-- in short rows (short.py)
import Derived.Test.YtbmmddngadnofaaFx0
import Derived.Test.YtbmmddngadnofaaFx16
import Derived.Test.YtbmmddngadnofaaFx18
namespace Go.Proofs.Ytbmmddngadnofaa.F
open Go.RowKit Go.Proofs.YtbmmddngadnofaaW.PrintWords Go.Proofs.YtbmmddngadnofaaW.PrintLast Go.Proofs.YtbmmddngadnofaaW.PrintMore
attribute [local go_sem] max2_int min2_int max_two min_two max_three min_three max_four min_four   -- for this text's walks alone
set_option linter.unusedVariables false
set_option linter.unusedSimpArgs false

/-! ### plinthref25_Check: function 33 -/
def plinthref25_Check.f (k : Nat) (l0_0 : List (List Int)) : Option (Int) := if (l0_0.length : Int) = 0 then (some 250) else (if 0 < (l0_0.length : Int) then ((plinthref25_Make.f k (rd_L1 l0_0 0)).bind fun bt222 => (if bt222.2 = 0 then ((plinthref25_Same.f k l0_0 bt222.1).bind fun t227 => (if t227 = true then (some 0) else (some 250))) else (some 250))) else (none))
theorem plinthref25_Check.mono : ∀ a0 k, LeO (plinthref25_Check.f k a0) (plinthref25_Check.f (k + 1) a0) := by
 intro a0 k
 unfold plinthref25_Check.f
 repeat' first
   | (with_reducible exact plinthref25_Make.mono _ _)
   | (with_reducible exact plinthref25_Same.mono _ _ _)
   | (with_reducible exact LeO.refl _)
   | (with_reducible exact LeO.none _)
   | (with_reducible refine LeO.ite ?_ ?_)
   | (with_reducible refine LeO.bind ?_ (fun _ => ?_))
   | exact plinthref25_Make.mono _ _
   | exact plinthref25_Same.mono _ _ _
   | exact LeO.none _
   | refine LeO.ite ?_ ?_
   | refine LeO.bind ?_ (fun _ => ?_)
set_option maxHeartbeats 8000000 in
set_option maxRecDepth 100000 in
theorem plinthref25_Check.calls (k : Nat) (A0_0 : Option Addr) (c0_0 : Nat) (l0_0 : List (List Int)) (r : Int) (w : World) (hr0_0 : Kd.C (Kd.slice 25 (Kd.int .u32)) w A0_0 l0_0.length l0_0) (hc0_0 : l0_0.length ≤ c0_0) (h : plinthref25_Check.f k l0_0 = some r) :
  Calls Try.prog 33 #[.agg #[.slice A0_0 l0_0.length c0_0]] w fun e w' => e = .returned (.int .i64 r) ∧ Below w.heap.size w w' := by
 have hu24 := Try.underlying24
 have HR0_0 := Aside0.mk hr0_0
 have HC0_0 := Aside0.mk hc0_0
 clear hr0_0 hc0_0
 have HB := Aside0.mk (Below.refl w.heap.size w)
 have H : (if (l0_0.length : Int) = 0 then (some 250) else (if 0 < (l0_0.length : Int) then ((plinthref25_Make.f k (rd_L1 l0_0 0)).bind fun bt222 => (if bt222.2 = 0 then ((plinthref25_Same.f k l0_0 bt222.1).bind fun t227 => (if t227 = true then (some 0) else (some 250))) else (some 250))) else (none))) = some r := h
 clear h
 by_cases c2 : (l0_0.length : Int) = 0
 ·rw [if_pos c2] at H
  have c2b0 : ((l0_0.length : Int) == 0) = true := beq_iff_eq.mpr c2
  have c2b1 : ((l0_0.length : Int) != 0) = false := bne_eq_false_iff_eq.mpr c2
  clear c2
  obtain rfl := Option.some.inj H
  go_enter Try.func33, Try.ntmps33
  go_wp2_with (first | ((with_reducible refine gate_dst (N := 1) rfl ?_); refine box_event ?hg (N := 1) ?hd (cs := #[.slice A0_0 l0_0.length c0_0]) (t := 24) ?hr ?_; (case hd => rfl); (case hg => rfl); (case hr => first | (go_simp; done) | (go_simp; rfl)); intro gb220 hg w3 hbox hb; have BK220 := Aside0.mk (hbox); have GW220 := Aside0.mk ((by rw [hg]; exact (below_size (upB0 HB.out)) : w.heap.size ≤ gb220)); have GE220 := Aside0.mk ((by rw [hg]; exact (below_size (upB0 HB.out)) : w.heap.size ≤ gb220)); replace HB := Aside0.mk (below_step (upB0 HB.out) hb); clear hb hbox hg; obtain ⟨hcz4_0, hfz4_0⟩ := cells1 BK220.out))
  go_ret
  exact ⟨by first | rfl | (simp [errW_none, errW_some] <;> rfl) | (simp [*, errW_none, errW_some] <;> rfl), upB1 HB.out GE220.out⟩
 ·rw [if_neg c2] at H
  have c2b0 : ((l0_0.length : Int) == 0) = false := beq_eq_false_iff_ne.mpr c2
  have c2b1 : ((l0_0.length : Int) != 0) = true := bne_iff_ne.mpr c2
  have c2b2 : ¬ (l0_0 = []) := fun h_ => c2 (by rw [h_]; rfl)
  by_cases c5 : 0 < (l0_0.length : Int)
  ·rw [if_pos c5] at H
   have c5b0 : decide (0 < (l0_0.length : Int)) = true := decide_eq_true c5
   have c5b1 : decide (0 < l0_0.length) = true := decide_eq_true (by omega)
   clear c5
   replace H := Option.bind_eq_some_iff.mp H
   obtain ⟨⟨t222, t225⟩, A60, H⟩ := H
   replace H : (if t225 = 0 then ((plinthref25_Same.f k l0_0 t222).bind fun t227 => (if t227 = true then (some 0) else (some 250))) else (some 250)) = some r := H
   have A6 := Aside0.mk A60
   clear A60
   by_cases c7 : t225 = 0
   ·rw [if_pos c7] at H
    have c7b0 : (t225 == 0) = true := beq_iff_eq.mpr c7
    have c7b1 : (t225 != 0) = false := bne_eq_false_iff_eq.mpr c7
    clear c7
    replace H := Option.bind_eq_some_iff.mp H
    obtain ⟨t227, A80, H⟩ := H
    replace H : (if t227 = true then (some 0) else (some 250)) = some r := H
    have A8 := Aside0.mk A80
    clear A80
    by_cases c9 : t227 = true
    ·subst c9
     have H1 : (some 0) = some r := by rw [if_pos rfl] at H; exact H
     clear H
     have H := H1
     clear H1
     obtain rfl := Option.some.inj H
     go_enter Try.func33, Try.ntmps33
     go_wp2_with (first | ((with_reducible refine gate_dst (N := 1) rfl ?_); refine box_event ?hg (N := 1) ?hd (cs := #[.slice A0_0 l0_0.length c0_0]) (t := 24) ?hr ?_; (case hd => rfl); (case hg => rfl); (case hr => first | (go_simp; done) | (go_simp; rfl)); intro gb220 hg w10 hbox hb; have BK220 := Aside0.mk (hbox); have GW220 := Aside0.mk ((by rw [hg]; exact (below_size (upB0 HB.out)) : w.heap.size ≤ gb220)); have GE220 := Aside0.mk ((by rw [hg]; exact (below_size (upB0 HB.out)) : w.heap.size ≤ gb220)); replace HB := Aside0.mk (below_step (upB0 HB.out) hb); clear hb hbox hg; obtain ⟨hcz11_0, hfz11_0⟩ := cells1 BK220.out; have p221 : 0 ≤ (0 : Int) := (by omega); have q221 : 0 < (l0_0.length : Int) := of_decide_eq_true (by first | (with_reducible assumption) | assumption); obtain ⟨ad221, A221_0, c221_0, e221, hx221_0, hl221_0, hi221_0⟩ := at_L1 HR0_0.out 0 p221 q221; cases e221; have qi221 : (0 < l0_0.length) = True := eq_true (by omega); (try rw [show ((0 : Int)).toNat = 0 from rfl] at hx221_0); (try rw [Addr.add_zero'] at hx221_0); replace hx221_0 := (HB.out.cell (World.block_lt_of_cell? w _ hx221_0)).trans hx221_0; have HR221_0 := Aside0.mk hi221_0; have HC221_0 := Aside0.mk hl221_0; clear hi221_0 hl221_0; replace p221 := eq_true p221; replace q221 := eq_true q221) | ((with_reducible refine gate_callee (f := 22) rfl ?_); refine goesL_ (some 14) rfl rfl Try.func22 (by kernel_rfl) rfl #[.slice A221_0 (rd_L1 l0_0 0).length c221_0] rfl argA ?_; (with_reducible refine (plinthref25_Make.calls k _ _ (rd_L1 l0_0 0) t222 t225 _ ?side1 ?side2 A6.out).mono ?_); (case side1 => exact upC ((Kd.C_below HR221_0.out HB.out))); (case side2 => exact HC221_0.out); rintro e w12 ⟨v223, rfl, ho0, hb⟩; refine ⟨_, rfl, ?_⟩; have HO224 := Aside0.mk (Kd.V_lower (Kd.V_mono (ok' := fun k_ => k_ ≠ gb220) ho0 (fun k_ hk_ => (Kd.freshB (upK BK220.out) k_ hk_))) (below_size (upB1 HB.out GE220.out))); replace BK220 := Aside0.mk (blk_below (upK BK220.out) hb); replace HB := Aside0.mk (below_step (upB1 HB.out GE220.out) hb); (try clear hb); (try clear hb2); (try clear hk); (try clear hi); (try clear ho0)) | ((with_reducible refine gate_dst (N := 3) rfl ?_); refine box_event ?hg (N := 3) ?hd (cs := #[.slice none 0 0]) (t := 24) ?hr ?_; (case hd => rfl); (case hg => rfl); (case hr => first | (go_simp; done) | (go_simp; rfl)); intro gb226 hg w13 hbox hb; replace HO224 := Aside0.mk (Kd.V_below (Kd.V_elderB (upV HO224.out) gb226 (Nat.le_of_eq hg.symm)) hb); have BK226 := Aside0.mk (hbox); have GW226 := Aside0.mk ((by rw [hg]; exact (below_size (upB1 HB.out GE220.out)) : w.heap.size ≤ gb226)); have GE226 := Aside0.mk ((by rw [hg]; exact (below_size (upB1 HB.out GE220.out)) : w.heap.size ≤ gb226)); replace HB := Aside0.mk (below_step (upB1 HB.out GE220.out) hb); have NB220_226 := Aside0.mk ((by rw [hg]; exact Nat.ne_of_lt (blk_lt (upK BK220.out)) : gb220 ≠ gb226)); have NB226_220 := Aside0.mk ((by rw [hg]; exact Nat.ne_of_gt (blk_lt (upK BK220.out)) : gb226 ≠ gb220)); replace BK220 := Aside0.mk (blk_below (upK BK220.out) hb); clear hb hbox hg; obtain ⟨Ao14, co14, eo14⟩ := Kd.V_slice HO224.out; subst eo14; have hnb15 := NB226_220.out; have hnc15 := NB220_226.out; obtain ⟨hcz16_0, hfz16_0⟩ := cells1 BK226.out; obtain ⟨hcz17_0, hfz17_0⟩ := cells1 BK220.out) | (go_at_call 27; (with_reducible refine (plinthref25_Same.calls k _ _ l0_0 _ _ t222 true _ ?side1 ?side2 ?side3 ?side4 A8.out).mono ?_); (case side1 => exact Kd.C_below HR0_0.out (upB2 HB.out GE220.out GE226.out)); (case side2 => exact HC0_0.out); (case side3 => refine (Kd.V_reads' (e := 40) (base := w.heap.size) (ok := fun k_ => (k_ ≠ gb220 ∧ k_ ≠ gb226)) (n := t222.length) (c := co14) ?_).2.2; exact (by refine upV ?_; exact (fV1 (Kd.V_mono HO224.out (fun k_ hk => (⟨hk, hk.2⟩ : _ ∧ k_ ≠ gb226)))))); (case side4 => exact (Kd.V_reads' HO224.out).2.1); rintro e w18 ⟨rfl, hb⟩; replace HO224 := Aside0.mk (Kd.V_below (by refine upV ?_; exact (fV1 (Kd.V_mono HO224.out (fun k_ hk => (⟨hk, hk.2⟩ : _ ∧ k_ ≠ gb226))))) hb); replace BK220 := Aside0.mk (blk_below (g := gb220) (o := .cells #[.slice (some ad221) l0_0.length c0_0] 24 (0, 0)) (by refine upK ?_; refine blk_far ?_ NB220_226.out _; refine upK ?_; exact BK220.out) hb); replace BK226 := Aside0.mk (blk_below (g := gb226) (o := .cells #[.slice Ao14 t222.length co14] 24 (0, 0)) (by refine upK ?_; refine blk_put (cs := #[.slice none 0 0]) ?_ 0 _ rfl; refine upK ?_; exact BK226.out) hb); replace HB := Aside0.mk (below_step (upB2 HB.out GE220.out GE226.out) hb); (try clear hb); (try clear hb2); (try clear hk); (try clear hi)))
     go_ret
     exact ⟨by first | rfl | (simp [errW_none, errW_some] <;> rfl) | (simp [*, errW_none, errW_some] <;> rfl), upB2 HB.out GE220.out GE226.out⟩
    ·replace c9 := Bool.eq_false_iff.mpr c9
     subst c9
     have H1 : (some 250) = some r := by rw [if_neg (show ¬ (false = true) by decide)] at H; exact H
     clear H
     have H := H1
     clear H1
     obtain rfl := Option.some.inj H
     go_enter Try.func33, Try.ntmps33
     go_wp2_with (first | ((with_reducible refine gate_dst (N := 1) rfl ?_); refine box_event ?hg (N := 1) ?hd (cs := #[.slice A0_0 l0_0.length c0_0]) (t := 24) ?hr ?_; (case hd => rfl); (case hg => rfl); (case hr => first | (go_simp; done) | (go_simp; rfl)); intro gb220 hg w19 hbox hb; have BK220 := Aside0.mk (hbox); have GW220 := Aside0.mk ((by rw [hg]; exact (below_size (upB0 HB.out)) : w.heap.size ≤ gb220)); have GE220 := Aside0.mk ((by rw [hg]; exact (below_size (upB0 HB.out)) : w.heap.size ≤ gb220)); replace HB := Aside0.mk (below_step (upB0 HB.out) hb); clear hb hbox hg; obtain ⟨hcz20_0, hfz20_0⟩ := cells1 BK220.out; have p221 : 0 ≤ (0 : Int) := (by omega); have q221 : 0 < (l0_0.length : Int) := of_decide_eq_true (by first | (with_reducible assumption) | assumption); obtain ⟨ad221, A221_0, c221_0, e221, hx221_0, hl221_0, hi221_0⟩ := at_L1 HR0_0.out 0 p221 q221; cases e221; have qi221 : (0 < l0_0.length) = True := eq_true (by omega); (try rw [show ((0 : Int)).toNat = 0 from rfl] at hx221_0); (try rw [Addr.add_zero'] at hx221_0); replace hx221_0 := (HB.out.cell (World.block_lt_of_cell? w _ hx221_0)).trans hx221_0; have HR221_0 := Aside0.mk hi221_0; have HC221_0 := Aside0.mk hl221_0; clear hi221_0 hl221_0; replace p221 := eq_true p221; replace q221 := eq_true q221) | ((with_reducible refine gate_callee (f := 22) rfl ?_); refine goesL_ (some 14) rfl rfl Try.func22 (by kernel_rfl) rfl #[.slice A221_0 (rd_L1 l0_0 0).length c221_0] rfl argA ?_; (with_reducible refine (plinthref25_Make.calls k _ _ (rd_L1 l0_0 0) t222 t225 _ ?side1 ?side2 A6.out).mono ?_); (case side1 => exact upC ((Kd.C_below HR221_0.out HB.out))); (case side2 => exact HC221_0.out); rintro e w21 ⟨v223, rfl, ho0, hb⟩; refine ⟨_, rfl, ?_⟩; have HO224 := Aside0.mk (Kd.V_lower (Kd.V_mono (ok' := fun k_ => k_ ≠ gb220) ho0 (fun k_ hk_ => (Kd.freshB (upK BK220.out) k_ hk_))) (below_size (upB1 HB.out GE220.out))); replace BK220 := Aside0.mk (blk_below (upK BK220.out) hb); replace HB := Aside0.mk (below_step (upB1 HB.out GE220.out) hb); (try clear hb); (try clear hb2); (try clear hk); (try clear hi); (try clear ho0)) | ((with_reducible refine gate_dst (N := 3) rfl ?_); refine box_event ?hg (N := 3) ?hd (cs := #[.slice none 0 0]) (t := 24) ?hr ?_; (case hd => rfl); (case hg => rfl); (case hr => first | (go_simp; done) | (go_simp; rfl)); intro gb226 hg w22 hbox hb; replace HO224 := Aside0.mk (Kd.V_below (Kd.V_elderB (upV HO224.out) gb226 (Nat.le_of_eq hg.symm)) hb); have BK226 := Aside0.mk (hbox); have GW226 := Aside0.mk ((by rw [hg]; exact (below_size (upB1 HB.out GE220.out)) : w.heap.size ≤ gb226)); have GE226 := Aside0.mk ((by rw [hg]; exact (below_size (upB1 HB.out GE220.out)) : w.heap.size ≤ gb226)); replace HB := Aside0.mk (below_step (upB1 HB.out GE220.out) hb); have NB220_226 := Aside0.mk ((by rw [hg]; exact Nat.ne_of_lt (blk_lt (upK BK220.out)) : gb220 ≠ gb226)); have NB226_220 := Aside0.mk ((by rw [hg]; exact Nat.ne_of_gt (blk_lt (upK BK220.out)) : gb226 ≠ gb220)); replace BK220 := Aside0.mk (blk_below (upK BK220.out) hb); clear hb hbox hg; obtain ⟨Ao23, co23, eo23⟩ := Kd.V_slice HO224.out; subst eo23; have hnb24 := NB226_220.out; have hnc24 := NB220_226.out; obtain ⟨hcz25_0, hfz25_0⟩ := cells1 BK226.out; obtain ⟨hcz26_0, hfz26_0⟩ := cells1 BK220.out) | (go_at_call 27; (with_reducible refine (plinthref25_Same.calls k _ _ l0_0 _ _ t222 false _ ?side1 ?side2 ?side3 ?side4 A8.out).mono ?_); (case side1 => exact Kd.C_below HR0_0.out (upB2 HB.out GE220.out GE226.out)); (case side2 => exact HC0_0.out); (case side3 => refine (Kd.V_reads' (e := 40) (base := w.heap.size) (ok := fun k_ => (k_ ≠ gb220 ∧ k_ ≠ gb226)) (n := t222.length) (c := co23) ?_).2.2; exact (by refine upV ?_; exact (fV1 (Kd.V_mono HO224.out (fun k_ hk => (⟨hk, hk.2⟩ : _ ∧ k_ ≠ gb226)))))); (case side4 => exact (Kd.V_reads' HO224.out).2.1); rintro e w27 ⟨rfl, hb⟩; replace HO224 := Aside0.mk (Kd.V_below (by refine upV ?_; exact (fV1 (Kd.V_mono HO224.out (fun k_ hk => (⟨hk, hk.2⟩ : _ ∧ k_ ≠ gb226))))) hb); replace BK220 := Aside0.mk (blk_below (g := gb220) (o := .cells #[.slice (some ad221) l0_0.length c0_0] 24 (0, 0)) (by refine upK ?_; refine blk_far ?_ NB220_226.out _; refine upK ?_; exact BK220.out) hb); replace BK226 := Aside0.mk (blk_below (g := gb226) (o := .cells #[.slice Ao23 t222.length co23] 24 (0, 0)) (by refine upK ?_; refine blk_put (cs := #[.slice none 0 0]) ?_ 0 _ rfl; refine upK ?_; exact BK226.out) hb); replace HB := Aside0.mk (below_step (upB2 HB.out GE220.out GE226.out) hb); (try clear hb); (try clear hb2); (try clear hk); (try clear hi)))
     go_ret
     exact ⟨by first | rfl | (simp [errW_none, errW_some] <;> rfl) | (simp [*, errW_none, errW_some] <;> rfl), upB2 HB.out GE220.out GE226.out⟩
   ·rw [if_neg c7] at H
    have c7b0 : (t225 == 0) = false := beq_eq_false_iff_ne.mpr c7
    have c7b1 : (t225 != 0) = true := bne_iff_ne.mpr c7
    obtain rfl := Option.some.inj H
    go_enter Try.func33, Try.ntmps33
    go_wp2_with (first | ((with_reducible refine gate_dst (N := 1) rfl ?_); refine box_event ?hg (N := 1) ?hd (cs := #[.slice A0_0 l0_0.length c0_0]) (t := 24) ?hr ?_; (case hd => rfl); (case hg => rfl); (case hr => first | (go_simp; done) | (go_simp; rfl)); intro gb220 hg w28 hbox hb; have BK220 := Aside0.mk (hbox); have GW220 := Aside0.mk ((by rw [hg]; exact (below_size (upB0 HB.out)) : w.heap.size ≤ gb220)); have GE220 := Aside0.mk ((by rw [hg]; exact (below_size (upB0 HB.out)) : w.heap.size ≤ gb220)); replace HB := Aside0.mk (below_step (upB0 HB.out) hb); clear hb hbox hg; obtain ⟨hcz29_0, hfz29_0⟩ := cells1 BK220.out; have p221 : 0 ≤ (0 : Int) := (by omega); have q221 : 0 < (l0_0.length : Int) := of_decide_eq_true (by first | (with_reducible assumption) | assumption); obtain ⟨ad221, A221_0, c221_0, e221, hx221_0, hl221_0, hi221_0⟩ := at_L1 HR0_0.out 0 p221 q221; cases e221; have qi221 : (0 < l0_0.length) = True := eq_true (by omega); (try rw [show ((0 : Int)).toNat = 0 from rfl] at hx221_0); (try rw [Addr.add_zero'] at hx221_0); replace hx221_0 := (HB.out.cell (World.block_lt_of_cell? w _ hx221_0)).trans hx221_0; have HR221_0 := Aside0.mk hi221_0; have HC221_0 := Aside0.mk hl221_0; clear hi221_0 hl221_0; replace p221 := eq_true p221; replace q221 := eq_true q221) | ((with_reducible refine gate_callee (f := 22) rfl ?_); refine goesL_ (some 14) rfl rfl Try.func22 (by kernel_rfl) rfl #[.slice A221_0 (rd_L1 l0_0 0).length c221_0] rfl argA ?_; (with_reducible refine (plinthref25_Make.calls k _ _ (rd_L1 l0_0 0) t222 t225 _ ?side1 ?side2 A6.out).mono ?_); (case side1 => exact upC ((Kd.C_below HR221_0.out HB.out))); (case side2 => exact HC221_0.out); rintro e w30 ⟨v223, rfl, ho0, hb⟩; refine ⟨_, rfl, ?_⟩; have HO224 := Aside0.mk (Kd.V_lower (Kd.V_mono (ok' := fun k_ => k_ ≠ gb220) ho0 (fun k_ hk_ => (Kd.freshB (upK BK220.out) k_ hk_))) (below_size (upB1 HB.out GE220.out))); replace BK220 := Aside0.mk (blk_below (upK BK220.out) hb); replace HB := Aside0.mk (below_step (upB1 HB.out GE220.out) hb); (try clear hb); (try clear hb2); (try clear hk); (try clear hi); (try clear ho0)) | ((with_reducible refine gate_dst (N := 3) rfl ?_); refine box_event ?hg (N := 3) ?hd (cs := #[.slice none 0 0]) (t := 24) ?hr ?_; (case hd => rfl); (case hg => rfl); (case hr => first | (go_simp; done) | (go_simp; rfl)); intro gb226 hg w31 hbox hb; replace HO224 := Aside0.mk (Kd.V_below (Kd.V_elderB (upV HO224.out) gb226 (Nat.le_of_eq hg.symm)) hb); have BK226 := Aside0.mk (hbox); have GW226 := Aside0.mk ((by rw [hg]; exact (below_size (upB1 HB.out GE220.out)) : w.heap.size ≤ gb226)); have GE226 := Aside0.mk ((by rw [hg]; exact (below_size (upB1 HB.out GE220.out)) : w.heap.size ≤ gb226)); replace HB := Aside0.mk (below_step (upB1 HB.out GE220.out) hb); have NB220_226 := Aside0.mk ((by rw [hg]; exact Nat.ne_of_lt (blk_lt (upK BK220.out)) : gb220 ≠ gb226)); have NB226_220 := Aside0.mk ((by rw [hg]; exact Nat.ne_of_gt (blk_lt (upK BK220.out)) : gb226 ≠ gb220)); replace BK220 := Aside0.mk (blk_below (upK BK220.out) hb); clear hb hbox hg; obtain ⟨Ao32, co32, eo32⟩ := Kd.V_slice HO224.out; subst eo32; have hnb33 := NB226_220.out; have hnc33 := NB220_226.out; obtain ⟨hcz34_0, hfz34_0⟩ := cells1 BK226.out))
    go_ret
    exact ⟨by first | rfl | (simp [errW_none, errW_some] <;> rfl) | (simp [*, errW_none, errW_some] <;> rfl), upB2 HB.out GE220.out GE226.out⟩
  ·rw [if_neg c5] at H
   exact absurd H (by simp)

end Go.Proofs.Ytbmmddngadnofaa.F
