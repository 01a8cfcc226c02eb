-- Written by ext (this session's own program).
-- in short rows (short.py)
import Derived.Test.YtbmmddngadnofaaFx0
import Derived.Test.YtbmmddngadnofaaFx16
import Derived.Test.YtbmmddngadnofaaFx28
import Derived.Test.YtbmmddngadnofaaFx54
namespace Go.Proofs.Ytbmmddngadnofaa.F
open Go.RowKit Go.Proofs.YtbmmddngadnofaaW.PrintWords Go.Proofs.YtbmmddngadnofaaW.PrintLast Go.Proofs.YtbmmddngadnofaaW.PrintMore
attribute [local go_sem] max2_int min2_int max_two min_two max_three min_three max_four min_four   -- for this text's walks alone
set_option linter.unusedVariables false
set_option linter.unusedSimpArgs false

/-! ### plinthref25_Of: function 40 -/
mutual
def plinthref25_Of.l0 : Nat → List Int → Int → Int → Int → Int → List (S39) → List (S121) → Int → List Int → Option ((List (List Int)) × Int)
 | 0, _, _, _, _, _, _, _, _, _ => none
 | k + 1, x4, x5, x572000, x572001, x572002, x572003, x572004, x572005, x572006 => if x5 < x572001 then (if 0 ≤ x572002 then (if (x572002 : Int).toNat ≤ 281474976710656 then (plinthref25_Of.l1 k x4 x5 0 x572000 x572001 x572002 x572003 x572004 x572005 x572006 x5 0 (List.replicate (x572002 : Int).toNat 0)) else (none)) else (none)) else ((plinthref25_Make.f k x4).bind fun bt574 => (some (bt574.1, bt574.2)))
def plinthref25_Of.l1 : Nat → List Int → Int → Int → Int → Int → Int → List (S39) → List (S121) → Int → List Int → Int → Int → List Int → Option ((List (List Int)) × Int)
 | 0, _, _, _, _, _, _, _, _, _, _, _, _, _ => none
 | k + 1, x4, x5, x7, x572000, x572001, x572002, x572003, x572004, x572005, x572006, x582000, x582001, x582002 => if x7 < (x572003.length : Int) then (if 0 ≤ x7 then (if ((rd_T39 x572003 x7).f0) = x5 then (plinthref25_Of.l1 k x4 x5 (wrap64 (x7 + 1)) x572000 x572001 x572002 x572003 x572004 x572005 x572006 ((rd_T39 x572003 x7).f0) ((rd_T39 x572003 x7).f1) ((rd_T39 x572003 x7).f2)) else (plinthref25_Of.l1 k x4 x5 (wrap64 (x7 + 1)) x572000 x572001 x572002 x572003 x572004 x572005 x572006 x582000 x582001 x582002)) else (none)) else ((plinthref25_Leaf.f k x582000 x582001 x582002).bind fun t584 => (if x4.length < 35184372088832 then (plinthref25_Of.l0 k (x4 ++ [t584]) (wrap64 (x5 + 1)) x572000 x572001 x572002 x572003 x572004 x572005 x572006) else (none)))
end
def plinthref25_Of.f (k : Nat) (a0_0 : Int) (a0_1 : Int) (a0_2 : Int) (l0_3 : List (S39)) (l0_4 : List (S121)) (a0_5 : Int) (l0_6 : List Int) : Option ((List (List Int)) × Int) := (plinthref07_State.f k a0_0 a0_1 a0_2 l0_3 l0_4 a0_5 l0_6).bind fun t573 => (if t573 = 0 then (plinthref25_Of.l0 k ([] : List Int) 0 a0_0 a0_1 a0_2 l0_3 l0_4 a0_5 l0_6) else (some (([] : List (List Int)), 72)))
theorem plinthref25_Of.mono_l : ∀ k, (∀ y0 y1 y2 y3 y4 y5 y6 y7 y8, LeO (plinthref25_Of.l0 k y0 y1 y2 y3 y4 y5 y6 y7 y8) (plinthref25_Of.l0 (k + 1) y0 y1 y2 y3 y4 y5 y6 y7 y8)) ∧ (∀ y0 y1 y2 y3 y4 y5 y6 y7 y8 y9 y10 y11 y12, LeO (plinthref25_Of.l1 k y0 y1 y2 y3 y4 y5 y6 y7 y8 y9 y10 y11 y12) (plinthref25_Of.l1 (k + 1) y0 y1 y2 y3 y4 y5 y6 y7 y8 y9 y10 y11 y12))
 | 0 => ⟨fun _ _ _ _ _ _ _ _ _ r h => by simp [plinthref25_Of.l0] at h, fun _ _ _ _ _ _ _ _ _ _ _ _ _ r h => by simp [plinthref25_Of.l1] at h⟩
 | k + 1 => by
  obtain ⟨ih0, ih1⟩ := plinthref25_Of.mono_l k
  refine ⟨?_, ?_⟩
  ·intro y0 y1 y2 y3 y4 y5 y6 y7 y8
   unfold plinthref25_Of.l0
   repeat' first
   | (with_reducible exact ih0 _ _ _ _ _ _ _ _ _)
   | (with_reducible exact ih1 _ _ _ _ _ _ _ _ _ _ _ _ _)
   | (with_reducible exact plinthref07_State.mono _ _ _ _ _ _ _ _)
   | (with_reducible exact plinthref25_Leaf.mono _ _ _ _)
   | (with_reducible exact plinthref25_Make.mono _ _)
   | (with_reducible exact LeO.refl _)
   | (with_reducible exact LeO.none _)
   | (with_reducible refine LeO.ite ?_ ?_)
   | (with_reducible refine LeO.bind ?_ (fun _ => ?_))
   | exact ih0 _ _ _ _ _ _ _ _ _
   | exact ih1 _ _ _ _ _ _ _ _ _ _ _ _ _
   | exact plinthref07_State.mono _ _ _ _ _ _ _ _
   | exact plinthref25_Leaf.mono _ _ _ _
   | exact plinthref25_Make.mono _ _
   | exact LeO.none _
   | refine LeO.ite ?_ ?_
   | refine LeO.bind ?_ (fun _ => ?_)
  ·intro y0 y1 y2 y3 y4 y5 y6 y7 y8 y9 y10 y11 y12
   unfold plinthref25_Of.l1
   repeat' first
   | (with_reducible exact ih0 _ _ _ _ _ _ _ _ _)
   | (with_reducible exact ih1 _ _ _ _ _ _ _ _ _ _ _ _ _)
   | (with_reducible exact plinthref07_State.mono _ _ _ _ _ _ _ _)
   | (with_reducible exact plinthref25_Leaf.mono _ _ _ _)
   | (with_reducible exact plinthref25_Make.mono _ _)
   | (with_reducible exact LeO.refl _)
   | (with_reducible exact LeO.none _)
   | (with_reducible refine LeO.ite ?_ ?_)
   | (with_reducible refine LeO.bind ?_ (fun _ => ?_))
   | exact ih0 _ _ _ _ _ _ _ _ _
   | exact ih1 _ _ _ _ _ _ _ _ _ _ _ _ _
   | exact plinthref07_State.mono _ _ _ _ _ _ _ _
   | exact plinthref25_Leaf.mono _ _ _ _
   | exact plinthref25_Make.mono _ _
   | exact LeO.none _
   | refine LeO.ite ?_ ?_
   | refine LeO.bind ?_ (fun _ => ?_)
theorem plinthref25_Of.mono : ∀ a0 a1 a2 a3 a4 a5 a6 k, LeO (plinthref25_Of.f k a0 a1 a2 a3 a4 a5 a6) (plinthref25_Of.f (k + 1) a0 a1 a2 a3 a4 a5 a6) := by
 intro a0 a1 a2 a3 a4 a5 a6 k
 obtain ⟨ih0, ih1⟩ := plinthref25_Of.mono_l k
 unfold plinthref25_Of.f
 repeat' first
   | (with_reducible exact ih0 _ _ _ _ _ _ _ _ _)
   | (with_reducible exact ih1 _ _ _ _ _ _ _ _ _ _ _ _ _)
   | (with_reducible exact plinthref07_State.mono _ _ _ _ _ _ _ _)
   | (with_reducible exact plinthref25_Leaf.mono _ _ _ _)
   | (with_reducible exact plinthref25_Make.mono _ _)
   | (with_reducible exact LeO.refl _)
   | (with_reducible exact LeO.none _)
   | (with_reducible refine LeO.ite ?_ ?_)
   | (with_reducible refine LeO.bind ?_ (fun _ => ?_))
   | exact ih0 _ _ _ _ _ _ _ _ _
   | exact ih1 _ _ _ _ _ _ _ _ _ _ _ _ _
   | exact plinthref07_State.mono _ _ _ _ _ _ _ _
   | exact plinthref25_Leaf.mono _ _ _ _
   | exact plinthref25_Make.mono _ _
   | exact LeO.none _
   | refine LeO.ite ?_ ?_
   | refine LeO.bind ?_ (fun _ => ?_)
set_option maxHeartbeats 8000000 in
set_option maxRecDepth 100000 in
theorem plinthref25_Of.calls (k : Nat) (a0_0 : Int) (a0_1 : Int) (a0_2 : Int) (P0_3_ : Nat → Prop) (A0_3 : Option Addr) (c0_3 : Nat) (l0_3 : List (S39)) (A0_4 : Option Addr) (c0_4 : Nat) (l0_4 : List (S121)) (a0_5 : Int) (A0_6 : Option Addr) (c0_6 : Nat) (l0_6 : List Int) (r1 : List (List Int)) (r2 : Int) (w : World) (hs0_3 : Kd.V k39 39 w w.heap.size (fun k_ => P0_3_ k_) (.slice A0_3 l0_3.length c0_3) l0_3) (hr0_4 : Kd.C k121 w A0_4 l0_4.length l0_4) (hc0_4 : l0_4.length ≤ c0_4) (hr0_6 : Kd.C (Kd.int .i64) w A0_6 l0_6.length l0_6) (hc0_6 : l0_6.length ≤ c0_6) (h : plinthref25_Of.f k a0_0 a0_1 a0_2 l0_3 l0_4 a0_5 l0_6 = some (r1, r2)) :
  Calls Try.prog 40 #[.agg #[.int .i64 a0_0, .int .i64 a0_1, .int .i64 a0_2, .slice A0_3 l0_3.length c0_3, .slice A0_4 l0_4.length c0_4, .int .i64 a0_5, .slice A0_6 l0_6.length c0_6]] w fun e w' => ∃ v0_ : Value, e = .returned (.tuple #[.agg #[v0_], .int .i64 r2]) ∧ Kd.V (Kd.slice 25 (Kd.int .u32)) 40 w' w.heap.size (fun k_ => (P0_3_ k_ ∨ w.heap.size ≤ k_)) v0_ r1 ∧ Below w.heap.size w w' := by
 have hu69 := Try.underlying69
 have hu24 := Try.underlying24
 have hu39 := Try.underlying39
 have HO0_3 := Aside0.mk (show Kd.V k39 39 w w.heap.size (fun k_ => (P0_3_ k_ ∨ w.heap.size ≤ k_)) (.slice A0_3 l0_3.length c0_3) l0_3 from Kd.V_mono hs0_3 (fun k_ hk => .inl hk))
 have HR0_4 := Aside0.mk hr0_4
 have HC0_4 := Aside0.mk hc0_4
 clear hr0_4 hc0_4
 have HR0_6 := Aside0.mk hr0_6
 have HC0_6 := Aside0.mk hc0_6
 clear hr0_6 hc0_6
 have HB := Aside0.mk (Below.refl w.heap.size w)
 have H : ((plinthref07_State.f k a0_0 a0_1 a0_2 l0_3 l0_4 a0_5 l0_6).bind fun t573 => (if t573 = 0 then (plinthref25_Of.l0 k ([] : List Int) 0 a0_0 a0_1 a0_2 l0_3 l0_4 a0_5 l0_6) else (some (([] : List (List Int)), 72)))) = some (r1, r2) := h
 clear h
 replace H := Option.bind_eq_some_iff.mp H
 obtain ⟨t573, A20, H⟩ := H
 replace H : (if t573 = 0 then (plinthref25_Of.l0 k ([] : List Int) 0 a0_0 a0_1 a0_2 l0_3 l0_4 a0_5 l0_6) else (some (([] : List (List Int)), 72))) = some (r1, r2) := H
 have A2 := Aside0.mk A20
 clear A20
 by_cases c3 : t573 = 0
 ·rw [if_pos c3] at H
  have c3b0 : (t573 == 0) = true := beq_iff_eq.mpr c3
  have c3b1 : (t573 != 0) = false := bne_eq_false_iff_eq.mpr c3
  clear c3
  have H' := Aside0.mk H
  clear H
  go_enter Try.func40, Try.ntmps40
  go_wp2_with (first | ((with_reducible refine gate_dst (N := 1) rfl ?_); refine box_event ?hg (N := 1) ?hd (cs := #[.int .i64 a0_0, .int .i64 a0_1, .int .i64 a0_2, .slice A0_3 l0_3.length c0_3, .slice A0_4 l0_4.length c0_4, .int .i64 a0_5, .slice A0_6 l0_6.length c0_6]) (t := 69) ?hr ?_; (case hd => rfl); (case hg => rfl); (case hr => first | (go_simp; done) | (go_simp; rfl)); intro gb571 hg w4 hbox hb; replace HO0_3 := Aside0.mk (Kd.V_below (Kd.V_elderB (upV HO0_3.out) gb571 (Nat.le_of_eq hg.symm)) hb); have BK571 := Aside0.mk (hbox); have GW571 := Aside0.mk ((by rw [hg]; exact (below_size (upB0 HB.out)) : w.heap.size ≤ gb571)); have GE571 := Aside0.mk ((by rw [hg]; exact (below_size (upB0 HB.out)) : w.heap.size ≤ gb571)); replace HB := Aside0.mk (below_step (upB0 HB.out) hb); clear hb hbox hg) | ((with_reducible refine gate_dst (N := 2) rfl ?_); refine box_event ?hg (N := 2) ?hd (cs := #[.slice none 0 0]) (t := 24) ?hr ?_; (case hd => rfl); (case hg => rfl); (case hr => first | (go_simp; done) | (go_simp; rfl)); intro gb572 hg w5 hbox hb; replace HO0_3 := Aside0.mk (Kd.V_below (Kd.V_elderB (upV HO0_3.out) gb572 (Nat.le_of_eq hg.symm)) hb); have BK572 := Aside0.mk (hbox); have GW572 := Aside0.mk ((by rw [hg]; exact (below_size (upB1 HB.out GE571.out)) : w.heap.size ≤ gb572)); have GE572 := Aside0.mk ((by rw [hg]; exact (below_size (upB1 HB.out GE571.out)) : w.heap.size ≤ gb572)); replace HB := Aside0.mk (below_step (upB1 HB.out GE571.out) hb); have NB571_572 := Aside0.mk ((by rw [hg]; exact Nat.ne_of_lt (blk_lt (upK BK571.out)) : gb571 ≠ gb572)); have NB572_571 := Aside0.mk ((by rw [hg]; exact Nat.ne_of_gt (blk_lt (upK BK571.out)) : gb572 ≠ gb571)); replace BK571 := Aside0.mk (blk_below (upK BK571.out) hb); clear hb hbox hg; have hnb6 := NB571_572.out; have hnc6 := NB572_571.out; obtain ⟨hcz7_0, hcz7_1, hcz7_2, hcz7_3, hcz7_4, hcz7_5, hcz7_6, hfz7_0, hfz7_1, hfz7_2, hfz7_3, hfz7_4, hfz7_5, hfz7_6⟩ := cells7 BK571.out) | ((with_reducible refine gate_callee (f := 41) rfl ?_); refine goesL_ (some 9) rfl rfl Try.func41 (by kernel_rfl) rfl #[.agg #[.int .i64 a0_0, .int .i64 a0_1, .int .i64 a0_2, .slice A0_3 l0_3.length c0_3, .slice A0_4 l0_4.length c0_4, .int .i64 a0_5, .slice A0_6 l0_6.length c0_6]] rfl argA ?_; (with_reducible refine (plinthref07_State.calls k a0_0 a0_1 a0_2 _ _ l0_3 _ _ l0_4 a0_5 _ _ l0_6 t573 _ ?side1 ?side2 ?side3 ?side4 ?side5 ?side6 A2.out).mono ?_); (case side1 => exact upC ((Kd.V_reads' HO0_3.out).2.2)); (case side2 => exact (Kd.V_reads' HO0_3.out).2.1); (case side3 => exact upC ((Kd.C_below HR0_4.out HB.out))); (case side4 => exact HC0_4.out); (case side5 => exact upC ((Kd.C_below HR0_6.out HB.out))); (case side6 => exact HC0_6.out); rintro e w8 ⟨rfl, hb⟩; refine ⟨_, rfl, ?_⟩; replace HO0_3 := Aside0.mk (Kd.V_below (upV HO0_3.out) hb); replace BK571 := Aside0.mk (blk_below (upK BK571.out) hb); replace BK572 := Aside0.mk (blk_below (upK BK572.out) hb); replace HB := Aside0.mk (below_step (upB2 HB.out GE571.out GE572.out) hb); (try clear hb); (try clear hb2); (try clear hk); (try clear hi)))
  go_loopg [4, 5] k (fun kq v4 v5 w' => ∃ (x4_1 : List Int) (x5_1 : Int), v5 = .int .i64 x5_1 ∧ Aside0 (plinthref25_Of.l0 kq x4_1 x5_1 a0_0 a0_1 a0_2 l0_3 l0_4 a0_5 l0_6 = some (r1, r2)) ∧ Aside0 (kq ≤ k) ∧ Aside0 (Kd.R (Kd.int .u32) 25 w' w.heap.size (fun k_ => (w.heap.size ≤ k_)) v4 x4_1) ∧ Aside0 (Kd.V k39 39 w' w.heap.size (fun k_ => (P0_3_ k_ ∨ w.heap.size ≤ k_) ∧ some k_ ≠ (v4 : Value).ownBlock ∧ k_ ≠ gb571 ∧ k_ ≠ gb572) (.slice A0_3 l0_3.length c0_3) l0_3) ∧ Aside0 (w'.heap[gb571]? = some (.cells #[.int .i64 a0_0, .int .i64 a0_1, .int .i64 a0_2, (.slice A0_3 l0_3.length c0_3), (.slice A0_4 l0_4.length c0_4), .int .i64 a0_5, (.slice A0_6 l0_6.length c0_6)] 69 (0, 0))) ∧ Aside0 (w'.heap[gb572]? = some (.cells #[(.slice none 0 0)] 24 (0, 0))) ∧ Aside0 (Below w.heap.size w w'))
  case atStart => exact ⟨(([] : List Int)), (0), (by first | rfl | (simp; done) | (simp [*]; done)), H', ⟨Nat.le_refl _⟩, ⟨by first | exact Kd.R_nil _ _ _ _ _ | exact Kd.N_nil _ _ _ _ _ | exact Kd.V_nil _ _ _ _ _ | exact Kd.Q_nil _ _ _ _ _ | exact Kd.S_nil _ _ _ _ _⟩, ⟨by refine upV ?_; exact Kd.V_mono HO0_3.out (fun _ hk => ⟨hk.1.1, ⟨(by simp [Value.ownBlock]), ⟨hk.1.2, hk.2⟩⟩⟩)⟩, ⟨by refine upK ?_; exact BK571.out⟩, ⟨by refine upK ?_; exact BK572.out⟩, ⟨upB2 HB.out GE571.out GE572.out⟩⟩
  case round =>
   clear H'
   (try clear p2); (try clear c3); (try clear c3b0); (try clear c3b1); (try clear c4); (try clear c6); (try clear hcz7_0); (try clear hcz7_1); (try clear hcz7_2); (try clear hcz7_3); (try clear hcz7_4); (try clear hcz7_5); (try clear hcz7_6); (try clear hfz7_0); (try clear hfz7_1); (try clear hfz7_2); (try clear hfz7_3); (try clear hfz7_4); (try clear hfz7_5); (try clear hfz7_6)
   obtain ⟨x4_1, x5_1, rfl, HA, HK1, HO_4, HO_572003, BK571, BK572, HB⟩ := hrel
   cases gk with
   | zero => exact absurd HA.out (by simp [plinthref25_Of.l0])
   | succ k1 =>
    have H := HA.out
    clear HA
    simp only [plinthref25_Of.l0] at H
    by_cases c9 : x5_1 < a0_1
    ·rw [if_pos c9] at H
     have c9b0 : decide (x5_1 < a0_1) = true := decide_eq_true c9
     clear c9
     by_cases c10 : 0 ≤ a0_2
     ·rw [if_pos c10] at H
      have c10b0 := eq_true c10
      have c10b1 : decide (0 ≤ a0_2) = true := decide_eq_true c10
      clear c10
      by_cases c11 : (a0_2 : Int).toNat ≤ 281474976710656
      ·rw [if_pos c11] at H
       have c11b0 := eq_true c11
       have c11b1 : decide ((a0_2 : Int).toNat ≤ 281474976710656) = true := decide_eq_true c11
       clear c11
       obtain ⟨y578, hy578⟩ : ∃ y_ : List Int, y_ = (List.replicate (a0_2 : Int).toNat 0) := ⟨_, rfl⟩
       replace H : (plinthref25_Of.l1 k1 x4_1 x5_1 0 a0_0 a0_1 a0_2 l0_3 l0_4 a0_5 l0_6 x5_1 0 y578) = some (r1, r2) := by first | (rw [hy578]; with_reducible exact H) | (have H2_ := (Option.bind_some _ _).symm.trans H; rw [hy578]; with_reducible exact H2_) | (have H2_ := (Option.bind_some _ _).symm.trans H; with_reducible exact H2_) | with_reducible exact H | (rw [hy578]; exact H) | exact H
       have Ny578 := Aside0.mk hy578
       clear hy578
       have H' := Aside0.mk H
       clear H
       have hnb12 := NB571_572.out
       have hnc12 := NB572_571.out
       obtain ⟨hcz13_0, hcz13_1, hcz13_2, hcz13_3, hcz13_4, hcz13_5, hcz13_6, hfz13_0, hfz13_1, hfz13_2, hfz13_3, hfz13_4, hfz13_5, hfz13_6⟩ := cells7 BK571.out
       go_wp2_with (first | ((with_reducible refine gate_dst (N := 23) rfl ?_); refine Kd.R_make (Kd.int .u8) _ 5 rfl (N := 23) rfl 37 _ _ rfl a0_2 rfl rfl Try.underlying37 (.int .u8 0) 1 info5 rfl (by decide) (by omega) 0 (ok := fun _ => True) (okp := fun _ => True) rfl (fun _ hk => hk) trivial (of_decide_eq_true (by first | (with_reducible assumption) | assumption)) (Nat.le_trans (Nat.mul_le_mul_right _ (of_decide_eq_true (by first | (with_reducible assumption) | assumption) : a0_2.toNat ≤ 281474976710656)) (by omega)) (Below.refl _ _) (Nat.le_refl _) ?_; intro v579 w14 ho15 hb hg_ hnew_; clear hg_ hnew_; (first | rw [← Ny578.out] at ho15 | (simp only [Int.reduceToNat] at ho15; rw [← Ny578.out] at ho15)); replace HO_4 := Aside0.mk (Kd.R_below (upR HO_4.out) hb); replace HO_572003 := Aside0.mk (Kd.V_elder' (upV HO_572003.out) (Kd.R_base ho15) hb); have HO580 := Aside0.mk (Kd.R_lower (Kd.R_newM (M := fun k_ => (w.heap.size ≤ k_)) ho15 (below_size (upB2 HB.out GE571.out GE572.out)) (fun k_ h_ => h_)) (below_size (upB2 HB.out GE571.out GE572.out))); replace BK571 := Aside0.mk (blk_below (upK BK571.out) hb); replace BK572 := Aside0.mk (blk_below (upK BK572.out) hb); replace HB := Aside0.mk (below_step (upB2 HB.out GE571.out GE572.out) hb); clear hb ho15; obtain ⟨Ao16, co16, eo16⟩ := Kd.R_slice HO580.out; subst eo16) | ((with_reducible refine gate_dst (N := 6) rfl ?_); refine box_event ?hg (N := 6) ?hd (cs := #[.int .i64 0, .int .i64 0, .slice none 0 0]) (t := 39) ?hr ?_; (case hd => rfl); (case hg => rfl); (case hr => first | (go_simp; done) | (go_simp; rfl)); intro gb581 hg w17 hbox hb; replace HO_4 := Aside0.mk (Kd.R_below (upR HO_4.out) hb); replace HO_572003 := Aside0.mk (Kd.V_below (Kd.V_elderB (upV HO_572003.out) gb581 (Nat.le_of_eq hg.symm)) hb); replace HO580 := Aside0.mk (Kd.R_below (upR HO580.out) hb); have BK581 := Aside0.mk (hbox); have GW581 := Aside0.mk ((by rw [hg]; exact (below_size (upB2 HB.out GE571.out GE572.out)) : w.heap.size ≤ gb581)); have GE581 := Aside0.mk ((by rw [hg]; exact (below_size (upB2 HB.out GE571.out GE572.out)) : w.heap.size ≤ gb581)); replace HB := Aside0.mk (below_step (upB2 HB.out GE571.out GE572.out) hb); have NB571_581 := Aside0.mk ((by rw [hg]; exact Nat.ne_of_lt (blk_lt (upK BK571.out)) : gb571 ≠ gb581)); have NB581_571 := Aside0.mk ((by rw [hg]; exact Nat.ne_of_gt (blk_lt (upK BK571.out)) : gb581 ≠ gb571)); replace BK571 := Aside0.mk (blk_below (upK BK571.out) hb); have NB572_581 := Aside0.mk ((by rw [hg]; exact Nat.ne_of_lt (blk_lt (upK BK572.out)) : gb572 ≠ gb581)); have NB581_572 := Aside0.mk ((by rw [hg]; exact Nat.ne_of_gt (blk_lt (upK BK572.out)) : gb581 ≠ gb572)); replace BK572 := Aside0.mk (blk_below (upK BK572.out) hb); clear hb hbox hg; have hnb18 := NB581_571.out; have hnc18 := NB571_581.out; have hnb19 := NB581_572.out; have hnc19 := NB572_581.out; obtain ⟨hcz20_0, hcz20_1, hcz20_2, hfz20_0, hfz20_1, hfz20_2⟩ := cells3 BK581.out))
       go_loopg [7] k1 (fun kq v7 w' => ∃ (x7_2 : Int) (x582000_2 : Int) (x582001_2 : Int) (x582002_2 : List Int) (u582002 : Value), v7 = .int .i64 x7_2 ∧ Aside0 (plinthref25_Of.l1 kq x4_1 x5_1 x7_2 a0_0 a0_1 a0_2 l0_3 l0_4 a0_5 l0_6 x582000_2 x582001_2 x582002_2 = some (r1, r2)) ∧ Aside0 (kq ≤ k1) ∧ Aside0 (Kd.R (Kd.int .u32) 25 w' w.heap.size (fun k_ => (w.heap.size ≤ k_)) u4 x4_1) ∧ Aside0 (Kd.V k39 39 w' w.heap.size (fun k_ => (P0_3_ k_ ∨ w.heap.size ≤ k_) ∧ some k_ ≠ (u4 : Value).ownBlock ∧ k_ ≠ gb571 ∧ k_ ≠ gb572 ∧ k_ ≠ gb581) (.slice A0_3 l0_3.length c0_3) l0_3) ∧ Aside0 (Kd.V (Kd.int .u8) 5 w' w.heap.size (fun k_ => (P0_3_ k_ ∨ w.heap.size ≤ k_) ∧ some k_ ≠ (u4 : Value).ownBlock ∧ k_ ≠ gb571 ∧ k_ ≠ gb572 ∧ k_ ≠ gb581) u582002 x582002_2) ∧ Aside0 (w'.heap[gb571]? = some (.cells #[.int .i64 a0_0, .int .i64 a0_1, .int .i64 a0_2, (.slice A0_3 l0_3.length c0_3), (.slice A0_4 l0_4.length c0_4), .int .i64 a0_5, (.slice A0_6 l0_6.length c0_6)] 69 (0, 0))) ∧ Aside0 (w'.heap[gb572]? = some (.cells #[(.slice none 0 0)] 24 (0, 0))) ∧ Aside0 (w'.heap[gb581]? = some (.cells #[.int .i64 x582000_2, .int .i64 x582001_2, u582002] 39 (0, 0))) ∧ Aside0 (Below w.heap.size w w'))
       case atStart => exact ⟨(0), (x5_1), (0), (y578), (.slice Ao16 y578.length co16), (by first | rfl | (simp; done) | (simp [*]; done)), H', ⟨Nat.le_refl _⟩, ⟨by refine upR ?_; exact Kd.R_mono (garR3 (g := gb581) (Kd.R_types HO_4.out BK581.out (by decide)) 0 (.int .i64 x5_1) 1 (.int .i64 0) 2 (.slice Ao16 y578.length co16)) (fun _ hk => hk.1)⟩, ⟨by refine upV ?_; exact Kd.V_mono (garV3 (g := gb581) (Kd.V_mono HO_572003.out (fun k_ hk => (⟨hk, hk.2⟩ : _ ∧ k_ ≠ gb581))) 0 (.int .i64 x5_1) 1 (.int .i64 0) 2 (.slice Ao16 y578.length co16)) (fun _ hk => ⟨hk.1.1.1.1, ⟨hk.1.1.1.2.1, ⟨hk.1.1.1.2.2.1, ⟨hk.1.1.1.2.2.2, hk.1.2⟩⟩⟩⟩)⟩, ⟨have q_ := (garR3 (g := gb581) (Kd.R_types (Kd.R_types (Kd.R_types (Kd.R_types (Kd.R_apart' HO580.out (Kd.R_typed HO_4.out) (by decide)) BK571.out (by decide)) BK572.out (by decide)) BK581.out (by decide)) BK581.out (by decide)) 0 (.int .i64 x5_1) 1 (.int .i64 0) 2 (.slice Ao16 y578.length co16)); Kd.V_mono (Kd.R_V q_) (fun k_ hk => ⟨.inr hk.1.1.1.1.1.1, hk.1.1.1.1.2, hk.1.1.1.2, hk.1.1.2, hk.1.2⟩)⟩, ⟨by refine upK ?_; refine blk_far ?_ NB571_581.out _; refine upK ?_; refine blk_far ?_ NB571_581.out _; refine upK ?_; refine blk_far ?_ NB571_581.out _; refine upK ?_; exact BK571.out⟩, ⟨by refine upK ?_; refine blk_far ?_ NB572_581.out _; refine upK ?_; refine blk_far ?_ NB572_581.out _; refine upK ?_; refine blk_far ?_ NB572_581.out _; refine upK ?_; exact BK572.out⟩, ⟨by refine upK ?_; refine blk_put (cs := #[.int .i64 x5_1, .int .i64 0, .slice none 0 0]) ?_ 2 _ rfl; refine upK ?_; refine blk_put (cs := #[.int .i64 x5_1, .int .i64 0, .slice none 0 0]) ?_ 1 _ rfl; refine upK ?_; refine blk_put (cs := #[.int .i64 0, .int .i64 0, .slice none 0 0]) ?_ 0 _ rfl; refine upK ?_; exact BK581.out⟩, ⟨upB3 HB.out GE571.out GE572.out GE581.out⟩⟩
       case round =>
        clear H'
        (try clear c1); (try clear p2); (try clear c3); (try clear c3b0); (try clear c3b1); (try clear c4); (try clear c6); (try clear c9); (try clear c9b0); (try clear c10); (try clear c10b0); (try clear c10b1); (try clear c11); (try clear c11b0); (try clear c11b1); (try clear c12); (try clear c18); (try clear c19); (try clear hcz13_0); (try clear hcz13_1); (try clear hcz13_2); (try clear hcz13_3); (try clear hcz13_4); (try clear hcz13_5); (try clear hcz13_6); (try clear hcz20_0); (try clear hcz20_1); (try clear hcz20_2); (try clear hcz7_0); (try clear hcz7_1); (try clear hcz7_2); (try clear hcz7_3); (try clear hcz7_4); (try clear hcz7_5); (try clear hcz7_6); (try clear hfz13_0); (try clear hfz13_1); (try clear hfz13_2); (try clear hfz13_3); (try clear hfz13_4); (try clear hfz13_5); (try clear hfz13_6); (try clear hfz20_0); (try clear hfz20_1); (try clear hfz20_2); (try clear hfz7_0); (try clear hfz7_1); (try clear hfz7_2); (try clear hfz7_3); (try clear hfz7_4); (try clear hfz7_5); (try clear hfz7_6); (try clear p2)
        obtain ⟨x7_2, x582000_2, x582001_2, x582002_2, u582002, rfl, HA, HK2, HO_4, HO_572003, HO_582002, BK571, BK572, BK581, HB⟩ := hrel
        cases gk with
        | zero => exact absurd HA.out (by simp [plinthref25_Of.l1])
        | succ k2 =>
         have H := HA.out
         clear HA
         simp only [plinthref25_Of.l1] at H
         by_cases c21 : x7_2 < (l0_3.length : Int)
         ·rw [if_pos c21] at H
          have c21b0 : decide (x7_2 < (l0_3.length : Int)) = true := decide_eq_true c21
          clear c21
          by_cases c22 : 0 ≤ x7_2
          ·rw [if_pos c22] at H
           have c22b0 : decide (0 ≤ x7_2) = true := decide_eq_true c22
           clear c22
           by_cases c23 : ((rd_T39 l0_3 x7_2).f0) = x5_1
           ·rw [if_pos c23] at H
            have c23b0 : (((rd_T39 l0_3 x7_2).f0) == x5_1) = true := beq_iff_eq.mpr c23
            have c23b1 : (((rd_T39 l0_3 x7_2).f0) != x5_1) = false := bne_eq_false_iff_eq.mpr c23
            clear c23
            have H' := Aside0.mk H
            clear H
            have hnb24 := NB571_572.out
            have hnc24 := NB572_571.out
            have hnb25 := NB571_581.out
            have hnc25 := NB581_571.out
            obtain ⟨hcz26_0, hcz26_1, hcz26_2, hcz26_3, hcz26_4, hcz26_5, hcz26_6, hfz26_0, hfz26_1, hfz26_2, hfz26_3, hfz26_4, hfz26_5, hfz26_6⟩ := cells7 BK571.out
            have p582 : 0 ≤ (x7_2 : Int) := of_decide_eq_true (by first | (with_reducible assumption) | assumption)
            have q582 : x7_2 < (l0_3.length : Int) := of_decide_eq_true (by first | (with_reducible assumption) | assumption)
            obtain ⟨ad582, A582_2, c582_2, e582, hx582_0, hx582_1, hx582_2, hl582_2, hi582_2⟩ := at_T39 (Kd.V_reads' HO_572003.out).2.2 x7_2 p582 q582
            cases e582
            obtain ⟨ce582, hce582, hMe582, hcc582⟩ := Kd.V_get HO_572003.out z39 x7_2 p582 (by first | exact q582 | exact of_decide_eq_true (by first | (with_reducible assumption) | assumption) | (have e_ := (Kd.V_reads' HO_572003.out).1; omega))
            obtain ⟨ua582_2, uc582_2, rfl, ul582_2, ge582_2⟩ := k39_openF hMe582
            have hv582_2 := hcc582 2 _ rfl
            rw [add_field _ _ 2 (by omega)] at hv582_2
            replace hv582_2 := Option.some.inj (hv582_2.symm.trans hx582_2)
            injection hv582_2 with hva_ hvn_ hvc_
            rw [hva_] at ge582_2
            rw [hvc_] at ul582_2
            have HL582_2 := Aside0.mk (show Kd.V (Kd.int .u8) 5 _ w.heap.size _ _ ((rd_T39 l0_3 x7_2).f2) from Kd.V_mk ul582_2 ge582_2)
            clear hva_ hvn_ hvc_ ge582_2 ul582_2
            clear hcc582 hce582
            have HR582_2 := Aside0.mk hi582_2
            have HC582_2 := Aside0.mk hl582_2
            clear hi582_2 hl582_2
            replace p582 := eq_true p582
            replace q582 := eq_true q582
            have p583 : 0 ≤ (x7_2 : Int) := of_decide_eq_true (by first | (with_reducible assumption) | assumption)
            have q583 : x7_2 < (l0_3.length : Int) := of_decide_eq_true (by first | (with_reducible assumption) | assumption)
            obtain ⟨ad583, A583_2, c583_2, e583, hx583_0, hx583_1, hx583_2, hl583_2, hi583_2⟩ := at_T39 (Kd.V_reads' HO_572003.out).2.2 x7_2 p583 q583
            obtain rfl : ad582 = ad583 := (by injection e583)
            obtain ⟨ce583, hce583, hMe583, hcc583⟩ := Kd.V_get HO_572003.out z39 x7_2 p583 (by first | exact q583 | exact of_decide_eq_true (by first | (with_reducible assumption) | assumption) | (have e_ := (Kd.V_reads' HO_572003.out).1; omega))
            obtain ⟨ua583_2, uc583_2, rfl, ul583_2, ge583_2⟩ := k39_openF hMe583
            have hv583_2 := hcc583 2 _ rfl
            rw [add_field _ _ 2 (by omega)] at hv583_2
            replace hv583_2 := Option.some.inj (hv583_2.symm.trans hx583_2)
            injection hv583_2 with hva_ hvn_ hvc_
            rw [hva_] at ge583_2
            rw [hvc_] at ul583_2
            have HL583_2 := Aside0.mk (show Kd.V (Kd.int .u8) 5 _ w.heap.size _ _ ((rd_T39 l0_3 x7_2).f2) from Kd.V_mk ul583_2 ge583_2)
            clear hva_ hvn_ hvc_ ge583_2 ul583_2
            clear hcc583 hce583
            have HR583_2 := Aside0.mk hi583_2
            have HC583_2 := Aside0.mk hl583_2
            clear hi583_2 hl583_2
            replace p583 := eq_true p583
            replace q583 := eq_true q583
            have ea_ := Option.some.inj (hx582_2.symm.trans hx583_2)
            injection ea_ with ea_ en_ ec_
            subst ea_
            subst ec_
            clear en_
            have hnb27 := NB581_572.out
            have hnc27 := NB572_581.out
            obtain ⟨hcz28_0, hcz28_1, hcz28_2, hfz28_0, hfz28_1, hfz28_2⟩ := cells3 BK581.out
            go_wp2
            go_roundg k2
            case measure => have := HK1.out; have := HK2.out; omega
            case rel => exact ⟨(wrap64 (x7_2 + 1)), ((rd_T39 l0_3 x7_2).f0), ((rd_T39 l0_3 x7_2).f1), ((rd_T39 l0_3 x7_2).f2), (.slice A582_2 ((rd_T39 l0_3 x7_2).f2).length c582_2), (by first | rfl | (simp; done) | (simp [*]; done)), H', ⟨by have := HK1.out; have := HK2.out; omega⟩, ⟨by refine upR ?_; exact Kd.R_mono (garR3 (g := gb581) (Kd.R_types HO_4.out BK581.out (by decide)) 0 (.int .i64 ((rd_T39 l0_3 x7_2).f0)) 1 (.int .i64 ((rd_T39 l0_3 x7_2).f1)) 2 (.slice A582_2 ((rd_T39 l0_3 x7_2).f2).length c582_2)) (fun _ hk => hk.1)⟩, ⟨by refine upV ?_; exact Kd.V_mono (garV3 (g := gb581) (Kd.V_mono HO_572003.out (fun k_ hk => (⟨hk, hk.2.2.2.2⟩ : _ ∧ k_ ≠ gb581))) 0 (.int .i64 ((rd_T39 l0_3 x7_2).f0)) 1 (.int .i64 ((rd_T39 l0_3 x7_2).f1)) 2 (.slice A582_2 ((rd_T39 l0_3 x7_2).f2).length c582_2)) (fun _ hk => ⟨hk.1.1, ⟨hk.1.2.1, ⟨hk.1.2.2.1, ⟨hk.1.2.2.2.1, hk.1.2.2.2.2⟩⟩⟩⟩)⟩, ⟨by refine upV ?_; exact Kd.V_mono (garV3 (g := gb581) (Kd.V_mono HL583_2.out (fun k_ hk => (⟨hk, hk.2.2.2.2⟩ : _ ∧ k_ ≠ gb581))) 0 (.int .i64 ((rd_T39 l0_3 x7_2).f0)) 1 (.int .i64 ((rd_T39 l0_3 x7_2).f1)) 2 (.slice A582_2 ((rd_T39 l0_3 x7_2).f2).length c582_2)) (fun _ hk => ⟨hk.1.1, ⟨hk.1.2.1, ⟨hk.1.2.2.1, ⟨hk.1.2.2.2.1, hk.1.2.2.2.2⟩⟩⟩⟩)⟩, ⟨by refine upK ?_; refine blk_far ?_ NB571_581.out _; refine upK ?_; refine blk_far ?_ NB571_581.out _; refine upK ?_; refine blk_far ?_ NB571_581.out _; refine upK ?_; exact BK571.out⟩, ⟨by refine upK ?_; refine blk_far ?_ NB572_581.out _; refine upK ?_; refine blk_far ?_ NB572_581.out _; refine upK ?_; refine blk_far ?_ NB572_581.out _; refine upK ?_; exact BK572.out⟩, ⟨by refine upK ?_; refine blk_put (cs := #[.int .i64 ((rd_T39 l0_3 x7_2).f0), .int .i64 ((rd_T39 l0_3 x7_2).f1), u582002]) ?_ 2 _ rfl; refine upK ?_; refine blk_put (cs := #[.int .i64 ((rd_T39 l0_3 x7_2).f0), .int .i64 x582001_2, u582002]) ?_ 1 _ rfl; refine upK ?_; refine blk_put (cs := #[.int .i64 x582000_2, .int .i64 x582001_2, u582002]) ?_ 0 _ rfl; refine upK ?_; exact BK581.out⟩, ⟨upB3 HB.out GE571.out GE572.out GE581.out⟩⟩
           ·rw [if_neg c23] at H
            have c23b0 : (((rd_T39 l0_3 x7_2).f0) == x5_1) = false := beq_eq_false_iff_ne.mpr c23
            have c23b1 : (((rd_T39 l0_3 x7_2).f0) != x5_1) = true := bne_iff_ne.mpr c23
            have H' := Aside0.mk H
            clear H
            have hnb29 := NB571_572.out
            have hnc29 := NB572_571.out
            have hnb30 := NB571_581.out
            have hnc30 := NB581_571.out
            obtain ⟨hcz31_0, hcz31_1, hcz31_2, hcz31_3, hcz31_4, hcz31_5, hcz31_6, hfz31_0, hfz31_1, hfz31_2, hfz31_3, hfz31_4, hfz31_5, hfz31_6⟩ := cells7 BK571.out
            have p582 : 0 ≤ (x7_2 : Int) := of_decide_eq_true (by first | (with_reducible assumption) | assumption)
            have q582 : x7_2 < (l0_3.length : Int) := of_decide_eq_true (by first | (with_reducible assumption) | assumption)
            obtain ⟨ad582, A582_2, c582_2, e582, hx582_0, hx582_1, hx582_2, hl582_2, hi582_2⟩ := at_T39 (Kd.V_reads' HO_572003.out).2.2 x7_2 p582 q582
            cases e582
            obtain ⟨ce582, hce582, hMe582, hcc582⟩ := Kd.V_get HO_572003.out z39 x7_2 p582 (by first | exact q582 | exact of_decide_eq_true (by first | (with_reducible assumption) | assumption) | (have e_ := (Kd.V_reads' HO_572003.out).1; omega))
            obtain ⟨ua582_2, uc582_2, rfl, ul582_2, ge582_2⟩ := k39_openF hMe582
            have hv582_2 := hcc582 2 _ rfl
            rw [add_field _ _ 2 (by omega)] at hv582_2
            replace hv582_2 := Option.some.inj (hv582_2.symm.trans hx582_2)
            injection hv582_2 with hva_ hvn_ hvc_
            rw [hva_] at ge582_2
            rw [hvc_] at ul582_2
            have HL582_2 := Aside0.mk (show Kd.V (Kd.int .u8) 5 _ w.heap.size _ _ ((rd_T39 l0_3 x7_2).f2) from Kd.V_mk ul582_2 ge582_2)
            clear hva_ hvn_ hvc_ ge582_2 ul582_2
            clear hcc582 hce582
            have HR582_2 := Aside0.mk hi582_2
            have HC582_2 := Aside0.mk hl582_2
            clear hi582_2 hl582_2
            replace p582 := eq_true p582
            replace q582 := eq_true q582
            go_wp2
            go_roundg k2
            case measure => have := HK1.out; have := HK2.out; omega
            case rel => exact ⟨(wrap64 (x7_2 + 1)), (x582000_2), (x582001_2), (x582002_2), (u582002), (by first | rfl | (simp; done) | (simp [*]; done)), H', ⟨by have := HK1.out; have := HK2.out; omega⟩, ⟨by refine upR ?_; exact HO_4.out⟩, ⟨by refine upV ?_; exact HO_572003.out⟩, ⟨by refine upV ?_; exact HO_582002.out⟩, ⟨by refine upK ?_; exact BK571.out⟩, ⟨by refine upK ?_; exact BK572.out⟩, ⟨by refine upK ?_; exact BK581.out⟩, ⟨upB3 HB.out GE571.out GE572.out GE581.out⟩⟩
          ·rw [if_neg c22] at H
           exact absurd H (by simp)
         ·rw [if_neg c21] at H
          have c21b0 : decide (x7_2 < (l0_3.length : Int)) = false := decide_eq_false c21
          clear c21
          replace H := Option.bind_eq_some_iff.mp H
          obtain ⟨t584, A320, H⟩ := H
          replace H : (if x4_1.length < 35184372088832 then (plinthref25_Of.l0 k2 (x4_1 ++ [t584]) (wrap64 (x5_1 + 1)) a0_0 a0_1 a0_2 l0_3 l0_4 a0_5 l0_6) else (none)) = some (r1, r2) := H
          have A32 := Aside0.mk A320
          clear A320
          by_cases c33 : x4_1.length < 35184372088832
          ·rw [if_pos c33] at H
           have LMc33 := Aside0.mk c33
           clear c33
           obtain ⟨y585, hy585⟩ : ∃ y_ : List Int, y_ = (x4_1 ++ [t584]) := ⟨_, rfl⟩
           replace H : (plinthref25_Of.l0 k2 y585 (wrap64 (x5_1 + 1)) a0_0 a0_1 a0_2 l0_3 l0_4 a0_5 l0_6) = some (r1, r2) := by first | (rw [hy585]; with_reducible exact H) | (have H2_ := (Option.bind_some _ _).symm.trans H; rw [hy585]; with_reducible exact H2_) | (have H2_ := (Option.bind_some _ _).symm.trans H; with_reducible exact H2_) | with_reducible exact H | (rw [hy585]; exact H) | exact H
           have Ny585 := Aside0.mk hy585
           clear hy585
           have H' := Aside0.mk H
           clear H
           have hnb34 := NB571_572.out
           have hnc34 := NB572_571.out
           have hnb35 := NB571_581.out
           have hnc35 := NB581_571.out
           obtain ⟨hcz36_0, hcz36_1, hcz36_2, hcz36_3, hcz36_4, hcz36_5, hcz36_6, hfz36_0, hfz36_1, hfz36_2, hfz36_3, hfz36_4, hfz36_5, hfz36_6⟩ := cells7 BK571.out
           have hnb37 := NB581_572.out
           have hnc37 := NB572_581.out
           obtain ⟨hcz38_0, hcz38_1, hcz38_2, hfz38_0, hfz38_1, hfz38_2⟩ := cells3 BK581.out
           obtain ⟨Ao39, co39, eo39⟩ := Kd.V_slice HO_582002.out
           subst eo39
           go_wp2_with (first | ((with_reducible refine gate_callee (f := 24) rfl ?_); refine goesL_ (some 47) rfl rfl Try.func24 (by kernel_rfl) rfl #[.agg #[.int .i64 x582000_2, .int .i64 x582001_2, .slice Ao39 x582002_2.length co39]] rfl argA ?_; (with_reducible refine (plinthref25_Leaf.calls k2 x582000_2 x582001_2 (fun k_ => ((P0_3_ k_ ∨ w.heap.size ≤ k_) ∧ (some k_ ≠ (u4 : Value).ownBlock ∧ (k_ ≠ gb571 ∧ (k_ ≠ gb572 ∧ k_ ≠ gb581))))) _ _ x582002_2 t584 _ ?side1 A32.out).mono ?_); (case side1 => exact HO_582002.out); rintro e w40 ⟨rfl, hb⟩; refine ⟨_, rfl, ?_⟩; replace HO_4 := Aside0.mk (Kd.R_below (upR HO_4.out) hb); replace HO_572003 := Aside0.mk (Kd.V_below (upV HO_572003.out) hb); replace HO_582002 := Aside0.mk (Kd.V_below (upV HO_582002.out) hb); replace BK571 := Aside0.mk (blk_below (upK BK571.out) hb); replace BK572 := Aside0.mk (blk_below (upK BK572.out) hb); replace BK581 := Aside0.mk (blk_below (upK BK581.out) hb); replace HB := Aside0.mk (below_step (upB3 HB.out GE571.out GE572.out GE581.out) hb); (try clear hb); (try clear hb2); (try clear hk); (try clear hi)) | ((with_reducible refine gate_builtin (b := .append) (xs := #[.tmp 45, .tmp 48]) rfl ?_); at_builtin; refine Kd.R_append (Kd.int .u32) (w0 := w) w.heap.size rfl (.tmp 45) (.tmp 48) 40 25 (.int .u32 0) 4 rfl Try.underlying40 info25 rfl (by decide) (by omega) u4 x4_1 t584 [.int .u32 t584] (fun k_ => (w.heap.size ≤ k_)) (fun _ => False) rfl rfl ?aP (fun _ hk => hk.elim) ?aF ?aO ?aB ?aS ?aL ?_; (case aP => exact rfl); (case aB => exact (upB3 HB.out GE571.out GE572.out GE581.out)); (case aF => exact (fun k_ hk => (Nat.le_trans (below_size (upB3 HB.out GE571.out GE572.out GE581.out)) hk))); (case aO => exact (upR HO_4.out)); (case aS => exact (below_size (upB3 HB.out GE571.out GE572.out GE581.out))); (case aL => have := LMc33.out; omega); intro v586 w41 ho hb hg hat; rw [← Ny585.out] at ho; have n0_ := Aside0.mk (Kd.V_afterv (ok := (fun k_ => (P0_3_ k_ ∨ w.heap.size ≤ k_) ∧ k_ ≠ gb571 ∧ k_ ≠ gb572 ∧ k_ ≠ gb581)) (by refine upV ?_; exact Kd.V_mono HO_572003.out (fun _ hk => ⟨⟨hk.1, ⟨hk.2.2.1, ⟨hk.2.2.2.1, hk.2.2.2.2⟩⟩⟩, hk.2.1⟩)) hg hat); have n1_ := Aside0.mk (Kd.V_afterv (ok := (fun k_ => (P0_3_ k_ ∨ w.heap.size ≤ k_) ∧ k_ ≠ gb571 ∧ k_ ≠ gb572 ∧ k_ ≠ gb581)) (by refine upV ?_; exact Kd.V_mono HO_582002.out (fun _ hk => ⟨⟨hk.1, ⟨hk.2.2.1, ⟨hk.2.2.2.1, hk.2.2.2.2⟩⟩⟩, hk.2.1⟩)) hg hat); have n2_ := Aside0.mk (blk_grown (upK BK571.out) hg (Kd.R_ne HO_4.out BK571.out (by decide))); have n3_ := Aside0.mk (blk_grown (upK BK572.out) hg (Kd.R_ne HO_4.out BK572.out (by decide))); have n4_ := Aside0.mk (blk_grown (upK BK581.out) hg (Kd.R_ne HO_4.out BK581.out (by decide))); have n5_ := Aside0.mk (hb); have n6_ := Aside0.mk (ho); clear HO_572003; clear HO_582002; clear BK571; clear BK572; clear BK581; clear HB; clear HO_4; have HO_572003 := n0_; have HO_582002 := n1_; have BK571 := n2_; have BK572 := n3_; have BK581 := n4_; have HB := n5_; have HO587 := n6_; clear n0_ n1_ n2_ n3_ n4_ n5_ n6_; clear ho hb hg hat))
           go_roundg k2
           case measure => have := HK1.out; have := HK2.out; omega
           case rel => exact ⟨(y585), (wrap64 (x5_1 + 1)), (by first | rfl | (simp; done) | (simp [*]; done)), H', ⟨by have := HK1.out; have := HK2.out; omega⟩, ⟨by refine upR ?_; exact HO587.out⟩, ⟨by refine upV ?_; exact Kd.V_mono HO_572003.out (fun _ hk => ⟨hk.1.1, ⟨hk.2, ⟨hk.1.2.1, hk.1.2.2.1⟩⟩⟩)⟩, ⟨by refine upK ?_; exact BK571.out⟩, ⟨by refine upK ?_; exact BK572.out⟩, ⟨upB3 HB.out GE571.out GE572.out GE581.out⟩⟩
          ·rw [if_neg c33] at H
           exact absurd H (by simp)
      ·rw [if_neg c11] at H
       exact absurd H (by simp)
     ·rw [if_neg c10] at H
      exact absurd H (by simp)
    ·rw [if_neg c9] at H
     have c9b0 : decide (x5_1 < a0_1) = false := decide_eq_false c9
     clear c9
     replace H := Option.bind_eq_some_iff.mp H
     obtain ⟨⟨t574, t577⟩, A420, H⟩ := H
     replace H : (some (t574, t577)) = some (r1, r2) := H
     have A42 := Aside0.mk A420
     clear A420
     simp only [Option.some.injEq, Prod.mk.injEq] at H
     obtain ⟨rfl, rfl⟩ := H
     have hnb43 := NB571_572.out
     have hnc43 := NB572_571.out
     obtain ⟨hcz44_0, hcz44_1, hcz44_2, hcz44_3, hcz44_4, hcz44_5, hcz44_6, hfz44_0, hfz44_1, hfz44_2, hfz44_3, hfz44_4, hfz44_5, hfz44_6⟩ := cells7 BK571.out
     obtain ⟨Ao45, co45, eo45⟩ := Kd.R_slice HO_4.out
     subst eo45
     go_wp2_with (first | ((with_reducible refine gate_callee (f := 22) rfl ?_); refine goesL_ (some 51) rfl rfl Try.func22 (by kernel_rfl) rfl #[.slice Ao45 x4_1.length co45] rfl argA ?_; (with_reducible refine (plinthref25_Make.calls k1 _ _ x4_1 t574 t577 _ ?side1 ?side2 A42.out).mono ?_); (case side1 => exact upC ((Kd.R_reads' HO_4.out).2.2)); (case side2 => exact (Kd.R_reads' HO_4.out).2.1); rintro e w46 ⟨v575, rfl, ho0, hb⟩; refine ⟨_, rfl, ?_⟩; replace HO_572003 := Aside0.mk (Kd.V_below (upV HO_572003.out) hb); have HO576 := Aside0.mk (Kd.V_lower (Kd.V_mono (ok' := fun k_ => (P0_3_ k_ ∨ w.heap.size ≤ k_) ∧ some k_ ≠ (.slice Ao45 x4_1.length co45 : Value).ownBlock ∧ k_ ≠ gb571 ∧ k_ ≠ gb572) ho0 (fun k_ hk_ => ⟨(.inr (Nat.le_trans (below_size (upB2 HB.out GE571.out GE572.out)) hk_)), (Kd.fresh' (Kd.R_lt (upR HO_4.out)) k_ hk_), (Kd.freshB (upK BK571.out) k_ hk_), (Kd.freshB (upK BK572.out) k_ hk_)⟩)) (below_size (upB2 HB.out GE571.out GE572.out))); replace HO_4 := Aside0.mk (Kd.R_below (upR HO_4.out) hb); replace BK571 := Aside0.mk (blk_below (upK BK571.out) hb); replace BK572 := Aside0.mk (blk_below (upK BK572.out) hb); replace HB := Aside0.mk (below_step (upB2 HB.out GE571.out GE572.out) hb); (try clear hb); (try clear hb2); (try clear hk); (try clear hi); (try clear ho0); obtain ⟨Ao47, co47, eo47⟩ := Kd.V_slice HO576.out; subst eo47; obtain ⟨hcz48_0, hfz48_0⟩ := cells1 BK572.out))
     refine bodyPost_ret (results_ct rfl _ _ gb572 24 #[.slice Ao47 t574.length co47] (0, 0) _ rfl (by refine upK ?_; refine blk_put (cs := #[.slice none 0 0]) ?_ 0 _ rfl; refine upK ?_; exact BK572.out) Try.underlying24 rfl (by kernel_rfl)) rfl ?_
     exact ⟨_, by first | rfl | (simp [errW_none, errW_some] <;> rfl) | (simp [*, errW_none, errW_some] <;> rfl), by refine upV ?_; exact Kd.V_mono (garV1 (g := gb572) (Kd.V_mono HO576.out (fun k_ hk => (⟨hk, hk.2.2.2⟩ : _ ∧ k_ ≠ gb572))) 0 (.slice Ao47 t574.length co47)) (fun _ hk => hk.1.1), upB2 HB.out GE571.out GE572.out⟩
 ·rw [if_neg c3] at H
  have c3b0 : (t573 == 0) = false := beq_eq_false_iff_ne.mpr c3
  have c3b1 : (t573 != 0) = true := bne_iff_ne.mpr c3
  simp only [Option.some.injEq, Prod.mk.injEq] at H
  obtain ⟨rfl, rfl⟩ := H
  go_enter Try.func40, Try.ntmps40
  go_wp2_with (first | ((with_reducible refine gate_dst (N := 1) rfl ?_); refine box_event ?hg (N := 1) ?hd (cs := #[.int .i64 a0_0, .int .i64 a0_1, .int .i64 a0_2, .slice A0_3 l0_3.length c0_3, .slice A0_4 l0_4.length c0_4, .int .i64 a0_5, .slice A0_6 l0_6.length c0_6]) (t := 69) ?hr ?_; (case hd => rfl); (case hg => rfl); (case hr => first | (go_simp; done) | (go_simp; rfl)); intro gb571 hg w49 hbox hb; replace HO0_3 := Aside0.mk (Kd.V_below (Kd.V_elderB (upV HO0_3.out) gb571 (Nat.le_of_eq hg.symm)) hb); have BK571 := Aside0.mk (hbox); have GW571 := Aside0.mk ((by rw [hg]; exact (below_size (upB0 HB.out)) : w.heap.size ≤ gb571)); have GE571 := Aside0.mk ((by rw [hg]; exact (below_size (upB0 HB.out)) : w.heap.size ≤ gb571)); replace HB := Aside0.mk (below_step (upB0 HB.out) hb); clear hb hbox hg) | ((with_reducible refine gate_dst (N := 2) rfl ?_); refine box_event ?hg (N := 2) ?hd (cs := #[.slice none 0 0]) (t := 24) ?hr ?_; (case hd => rfl); (case hg => rfl); (case hr => first | (go_simp; done) | (go_simp; rfl)); intro gb572 hg w50 hbox hb; replace HO0_3 := Aside0.mk (Kd.V_below (Kd.V_elderB (upV HO0_3.out) gb572 (Nat.le_of_eq hg.symm)) hb); have BK572 := Aside0.mk (hbox); have GW572 := Aside0.mk ((by rw [hg]; exact (below_size (upB1 HB.out GE571.out)) : w.heap.size ≤ gb572)); have GE572 := Aside0.mk ((by rw [hg]; exact (below_size (upB1 HB.out GE571.out)) : w.heap.size ≤ gb572)); replace HB := Aside0.mk (below_step (upB1 HB.out GE571.out) hb); have NB571_572 := Aside0.mk ((by rw [hg]; exact Nat.ne_of_lt (blk_lt (upK BK571.out)) : gb571 ≠ gb572)); have NB572_571 := Aside0.mk ((by rw [hg]; exact Nat.ne_of_gt (blk_lt (upK BK571.out)) : gb572 ≠ gb571)); replace BK571 := Aside0.mk (blk_below (upK BK571.out) hb); clear hb hbox hg; have hnb51 := NB571_572.out; have hnc51 := NB572_571.out; obtain ⟨hcz52_0, hcz52_1, hcz52_2, hcz52_3, hcz52_4, hcz52_5, hcz52_6, hfz52_0, hfz52_1, hfz52_2, hfz52_3, hfz52_4, hfz52_5, hfz52_6⟩ := cells7 BK571.out) | ((with_reducible refine gate_callee (f := 41) rfl ?_); refine goesL_ (some 9) rfl rfl Try.func41 (by kernel_rfl) rfl #[.agg #[.int .i64 a0_0, .int .i64 a0_1, .int .i64 a0_2, .slice A0_3 l0_3.length c0_3, .slice A0_4 l0_4.length c0_4, .int .i64 a0_5, .slice A0_6 l0_6.length c0_6]] rfl argA ?_; (with_reducible refine (plinthref07_State.calls k a0_0 a0_1 a0_2 _ _ l0_3 _ _ l0_4 a0_5 _ _ l0_6 t573 _ ?side1 ?side2 ?side3 ?side4 ?side5 ?side6 A2.out).mono ?_); (case side1 => exact upC ((Kd.V_reads' HO0_3.out).2.2)); (case side2 => exact (Kd.V_reads' HO0_3.out).2.1); (case side3 => exact upC ((Kd.C_below HR0_4.out HB.out))); (case side4 => exact HC0_4.out); (case side5 => exact upC ((Kd.C_below HR0_6.out HB.out))); (case side6 => exact HC0_6.out); rintro e w53 ⟨rfl, hb⟩; refine ⟨_, rfl, ?_⟩; replace HO0_3 := Aside0.mk (Kd.V_below (upV HO0_3.out) hb); replace BK571 := Aside0.mk (blk_below (upK BK571.out) hb); replace BK572 := Aside0.mk (blk_below (upK BK572.out) hb); replace HB := Aside0.mk (below_step (upB2 HB.out GE571.out GE572.out) hb); (try clear hb); (try clear hb2); (try clear hk); (try clear hi); obtain ⟨hcz54_0, hfz54_0⟩ := cells1 BK572.out))
  refine bodyPost_ret (results_ct rfl _ _ gb572 24 #[.slice none 0 0] (0, 0) _ rfl (by refine upK ?_; refine blk_put (cs := #[.slice none 0 0]) ?_ 0 _ rfl; refine upK ?_; exact BK572.out) Try.underlying24 rfl (by kernel_rfl)) rfl ?_
  exact ⟨_, by first | rfl | (simp [errW_none, errW_some] <;> rfl) | (simp [*, errW_none, errW_some] <;> rfl), (by exact Kd.V_nil _ _ _ _ _), upB2 HB.out GE571.out GE572.out⟩

end Go.Proofs.Ytbmmddngadnofaa.F
