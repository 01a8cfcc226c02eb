-- Written by ext (this session's own program).
-- in short rows (short.py)
import Derived.Test.YtbmmddngadnofaaFx0
import Derived.Test.YtbmmddngadnofaaFx17
namespace Go.Proofs.Ytbmmddngadnofaa.F
open Go.RowKit Go.Proofs.YtbmmddngadnofaaW.PrintWords Go.Proofs.YtbmmddngadnofaaW.PrintLast Go.Proofs.YtbmmddngadnofaaW.PrintMore
attribute [local go_sem] max2_int min2_int max_two min_two max_three min_three max_four min_four   -- for this text's walks alone
set_option linter.unusedVariables false
set_option linter.unusedSimpArgs false

/-! ### plinthref25_Same: function 27 -/
def plinthref25_Same.l0 : Nat → Int → List (List Int) → List (List Int) → Option (Bool)
 | 0, _, _, _ => none
 | k + 1, x5, x216000, x217000 => if x5 < (x216000.length : Int) then (if 0 ≤ x5 then (if x5 < (x217000.length : Int) then ((plinthref25_SameRow.f k (rd_L1 x216000 x5) (rd_L1 x217000 x5)).bind fun t219 => (if t219 = true then (plinthref25_Same.l0 k (wrap64 (x5 + 1)) x216000 x217000) else (some false))) else (none)) else (none)) else (some true)
def plinthref25_Same.f (k : Nat) (l0_0 : List (List Int)) (l1_0 : List (List Int)) : Option (Bool) := if (l0_0.length : Int) = (l1_0.length : Int) then (plinthref25_Same.l0 k 0 l0_0 l1_0) else (some false)
theorem plinthref25_Same.mono_l : ∀ k, (∀ y0 y1 y2, LeO (plinthref25_Same.l0 k y0 y1 y2) (plinthref25_Same.l0 (k + 1) y0 y1 y2))
 | 0 => fun _ _ _ r h => by simp [plinthref25_Same.l0] at h
 | k + 1 => by
  have ih0 := plinthref25_Same.mono_l k
  ·intro y0 y1 y2
   unfold plinthref25_Same.l0
   repeat' first
   | (with_reducible exact ih0 _ _ _)
   | (with_reducible exact plinthref25_SameRow.mono _ _ _)
   | (with_reducible exact LeO.refl _)
   | (with_reducible exact LeO.none _)
   | (with_reducible refine LeO.ite ?_ ?_)
   | (with_reducible refine LeO.bind ?_ (fun _ => ?_))
   | exact ih0 _ _ _
   | exact plinthref25_SameRow.mono _ _ _
   | exact LeO.none _
   | refine LeO.ite ?_ ?_
   | refine LeO.bind ?_ (fun _ => ?_)
theorem plinthref25_Same.mono : ∀ a0 a1 k, LeO (plinthref25_Same.f k a0 a1) (plinthref25_Same.f (k + 1) a0 a1) := by
 intro a0 a1 k
 have ih0 := plinthref25_Same.mono_l k
 unfold plinthref25_Same.f
 repeat' first
   | (with_reducible exact ih0 _ _ _)
   | (with_reducible exact plinthref25_SameRow.mono _ _ _)
   | (with_reducible exact LeO.refl _)
   | (with_reducible exact LeO.none _)
   | (with_reducible refine LeO.ite ?_ ?_)
   | (with_reducible refine LeO.bind ?_ (fun _ => ?_))
   | exact ih0 _ _ _
   | exact plinthref25_SameRow.mono _ _ _
   | exact LeO.none _
   | refine LeO.ite ?_ ?_
   | refine LeO.bind ?_ (fun _ => ?_)
set_option maxHeartbeats 8000000 in
set_option maxRecDepth 100000 in
theorem plinthref25_Same.calls (k : Nat) (A0_0 : Option Addr) (c0_0 : Nat) (l0_0 : List (List Int)) (A1_0 : Option Addr) (c1_0 : Nat) (l1_0 : List (List Int)) (r : Bool) (w : World) (hr0_0 : Kd.C (Kd.slice 25 (Kd.int .u32)) w A0_0 l0_0.length l0_0) (hc0_0 : l0_0.length ≤ c0_0) (hr1_0 : Kd.C (Kd.slice 25 (Kd.int .u32)) w A1_0 l1_0.length l1_0) (hc1_0 : l1_0.length ≤ c1_0) (h : plinthref25_Same.f k l0_0 l1_0 = some r) :
  Calls Try.prog 27 #[.agg #[.slice A0_0 l0_0.length c0_0], .agg #[.slice A1_0 l1_0.length c1_0]] w fun e w' => e = .returned (.bool r) ∧ Below w.heap.size w w' := by
 have hu24 := Try.underlying24
 have HR0_0 := Aside0.mk hr0_0
 have HC0_0 := Aside0.mk hc0_0
 clear hr0_0 hc0_0
 have HR1_0 := Aside0.mk hr1_0
 have HC1_0 := Aside0.mk hc1_0
 clear hr1_0 hc1_0
 have HB := Aside0.mk (Below.refl w.heap.size w)
 have H : (if (l0_0.length : Int) = (l1_0.length : Int) then (plinthref25_Same.l0 k 0 l0_0 l1_0) else (some false)) = some r := h
 clear h
 by_cases c3 : (l0_0.length : Int) = (l1_0.length : Int)
 ·rw [if_pos c3] at H
  have c3b0 : ((l0_0.length : Int) == (l1_0.length : Int)) = true := beq_iff_eq.mpr c3
  have c3b1 : ((l0_0.length : Int) != (l1_0.length : Int)) = false := bne_eq_false_iff_eq.mpr c3
  have c3b2 : (l0_0.length == l1_0.length) = true := by first | simpa using c3 | (simp at c3 ⊢; omega)
  clear c3
  have H' := Aside0.mk H
  clear H
  go_enter Try.func27, Try.ntmps27
  go_wp2_with (first | ((with_reducible refine gate_dst (N := 2) rfl ?_); refine box_event ?hg (N := 2) ?hd (cs := #[.slice A0_0 l0_0.length c0_0]) (t := 24) ?hr ?_; (case hd => rfl); (case hg => rfl); (case hr => first | (go_simp; done) | (go_simp; rfl)); intro gb215 hg w4 hbox hb; have BK215 := Aside0.mk (hbox); have GW215 := Aside0.mk ((by rw [hg]; exact (below_size (upB0 HB.out)) : w.heap.size ≤ gb215)); have GE215 := Aside0.mk ((by rw [hg]; exact (below_size (upB0 HB.out)) : w.heap.size ≤ gb215)); replace HB := Aside0.mk (below_step (upB0 HB.out) hb); clear hb hbox hg) | ((with_reducible refine gate_dst (N := 3) rfl ?_); refine box_event ?hg (N := 3) ?hd (cs := #[.slice A1_0 l1_0.length c1_0]) (t := 24) ?hr ?_; (case hd => rfl); (case hg => rfl); (case hr => first | (go_simp; done) | (go_simp; rfl)); intro gb216 hg w5 hbox hb; have BK216 := Aside0.mk (hbox); have GW216 := Aside0.mk ((by rw [hg]; exact (below_size (upB1 HB.out GE215.out)) : w.heap.size ≤ gb216)); have GE216 := Aside0.mk ((by rw [hg]; exact (below_size (upB1 HB.out GE215.out)) : w.heap.size ≤ gb216)); replace HB := Aside0.mk (below_step (upB1 HB.out GE215.out) hb); have NB215_216 := Aside0.mk ((by rw [hg]; exact Nat.ne_of_lt (blk_lt (upK BK215.out)) : gb215 ≠ gb216)); have NB216_215 := Aside0.mk ((by rw [hg]; exact Nat.ne_of_gt (blk_lt (upK BK215.out)) : gb216 ≠ gb215)); replace BK215 := Aside0.mk (blk_below (upK BK215.out) hb); clear hb hbox hg; have hnb6 := NB215_216.out; have hnc6 := NB216_215.out; obtain ⟨hcz7_0, hfz7_0⟩ := cells1 BK215.out; obtain ⟨hcz8_0, hfz8_0⟩ := cells1 BK216.out))
  repeat (go_quiet (first | ((with_reducible refine gate_dst (N := 2) rfl ?_); refine box_event ?hg (N := 2) ?hd (cs := #[.slice A0_0 l0_0.length c0_0]) (t := 24) ?hr ?_; (case hd => rfl); (case hg => rfl); (case hr => first | (go_simp; done) | (go_simp; rfl)); intro gb215 hg w4 hbox hb; have BK215 := Aside0.mk (hbox); have GW215 := Aside0.mk ((by rw [hg]; exact (below_size (upB0 HB.out)) : w.heap.size ≤ gb215)); have GE215 := Aside0.mk ((by rw [hg]; exact (below_size (upB0 HB.out)) : w.heap.size ≤ gb215)); replace HB := Aside0.mk (below_step (upB0 HB.out) hb); clear hb hbox hg) | ((with_reducible refine gate_dst (N := 3) rfl ?_); refine box_event ?hg (N := 3) ?hd (cs := #[.slice A1_0 l1_0.length c1_0]) (t := 24) ?hr ?_; (case hd => rfl); (case hg => rfl); (case hr => first | (go_simp; done) | (go_simp; rfl)); intro gb216 hg w5 hbox hb; have BK216 := Aside0.mk (hbox); have GW216 := Aside0.mk ((by rw [hg]; exact (below_size (upB1 HB.out GE215.out)) : w.heap.size ≤ gb216)); have GE216 := Aside0.mk ((by rw [hg]; exact (below_size (upB1 HB.out GE215.out)) : w.heap.size ≤ gb216)); replace HB := Aside0.mk (below_step (upB1 HB.out GE215.out) hb); have NB215_216 := Aside0.mk ((by rw [hg]; exact Nat.ne_of_lt (blk_lt (upK BK215.out)) : gb215 ≠ gb216)); have NB216_215 := Aside0.mk ((by rw [hg]; exact Nat.ne_of_gt (blk_lt (upK BK215.out)) : gb216 ≠ gb215)); replace BK215 := Aside0.mk (blk_below (upK BK215.out) hb); clear hb hbox hg; have hnb6 := NB215_216.out; have hnc6 := NB216_215.out; obtain ⟨hcz7_0, hfz7_0⟩ := cells1 BK215.out; obtain ⟨hcz8_0, hfz8_0⟩ := cells1 BK216.out)); try go_wp2_with (first | ((with_reducible refine gate_dst (N := 2) rfl ?_); refine box_event ?hg (N := 2) ?hd (cs := #[.slice A0_0 l0_0.length c0_0]) (t := 24) ?hr ?_; (case hd => rfl); (case hg => rfl); (case hr => first | (go_simp; done) | (go_simp; rfl)); intro gb215 hg w4 hbox hb; have BK215 := Aside0.mk (hbox); have GW215 := Aside0.mk ((by rw [hg]; exact (below_size (upB0 HB.out)) : w.heap.size ≤ gb215)); have GE215 := Aside0.mk ((by rw [hg]; exact (below_size (upB0 HB.out)) : w.heap.size ≤ gb215)); replace HB := Aside0.mk (below_step (upB0 HB.out) hb); clear hb hbox hg) | ((with_reducible refine gate_dst (N := 3) rfl ?_); refine box_event ?hg (N := 3) ?hd (cs := #[.slice A1_0 l1_0.length c1_0]) (t := 24) ?hr ?_; (case hd => rfl); (case hg => rfl); (case hr => first | (go_simp; done) | (go_simp; rfl)); intro gb216 hg w5 hbox hb; have BK216 := Aside0.mk (hbox); have GW216 := Aside0.mk ((by rw [hg]; exact (below_size (upB1 HB.out GE215.out)) : w.heap.size ≤ gb216)); have GE216 := Aside0.mk ((by rw [hg]; exact (below_size (upB1 HB.out GE215.out)) : w.heap.size ≤ gb216)); replace HB := Aside0.mk (below_step (upB1 HB.out GE215.out) hb); have NB215_216 := Aside0.mk ((by rw [hg]; exact Nat.ne_of_lt (blk_lt (upK BK215.out)) : gb215 ≠ gb216)); have NB216_215 := Aside0.mk ((by rw [hg]; exact Nat.ne_of_gt (blk_lt (upK BK215.out)) : gb216 ≠ gb215)); replace BK215 := Aside0.mk (blk_below (upK BK215.out) hb); clear hb hbox hg; have hnb6 := NB215_216.out; have hnc6 := NB216_215.out; obtain ⟨hcz7_0, hfz7_0⟩ := cells1 BK215.out; obtain ⟨hcz8_0, hfz8_0⟩ := cells1 BK216.out)))
  go_loopg [5] k (fun kq v5 w' => ∃ (x5_1 : Int), v5 = .int .i64 x5_1 ∧ Aside0 (plinthref25_Same.l0 kq x5_1 l0_0 l1_0 = some r) ∧ Aside0 (kq ≤ k) ∧ Aside0 (w'.heap[gb215]? = some (.cells #[(.slice A0_0 l0_0.length c0_0)] 24 (0, 0))) ∧ Aside0 (w'.heap[gb216]? = some (.cells #[(.slice A1_0 l1_0.length c1_0)] 24 (0, 0))) ∧ Aside0 (Below w.heap.size w w'))
  case atStart => exact ⟨(0), (by first | rfl | (simp; done) | (simp [*]; done)), H', ⟨Nat.le_refl _⟩, ⟨by refine upK ?_; exact BK215.out⟩, ⟨by refine upK ?_; exact BK216.out⟩, ⟨upB2 HB.out GE215.out GE216.out⟩⟩
  case round =>
   clear H'
   (try clear c1); (try clear c2); (try clear p2); (try clear c3); (try clear c3b0); (try clear c3b1); (try clear c3b2); (try clear c6); (try clear hcz7_0); (try clear hcz8_0); (try clear hfz7_0); (try clear hfz8_0)
   obtain ⟨x5_1, rfl, HA, HK1, BK215, BK216, HB⟩ := hrel
   cases gk with
   | zero => exact absurd HA.out (by simp [plinthref25_Same.l0])
   | succ k1 =>
    have H := HA.out
    clear HA
    simp only [plinthref25_Same.l0] at H
    by_cases c9 : x5_1 < (l0_0.length : Int)
    ·rw [if_pos c9] at H
     have c9b0 : decide (x5_1 < (l0_0.length : Int)) = true := decide_eq_true c9
     clear c9
     by_cases c10 : 0 ≤ x5_1
     ·rw [if_pos c10] at H
      have c10b0 : decide (0 ≤ x5_1) = true := decide_eq_true c10
      clear c10
      by_cases c11 : x5_1 < (l1_0.length : Int)
      ·rw [if_pos c11] at H
       have c11b0 : decide (x5_1 < (l1_0.length : Int)) = true := decide_eq_true c11
       clear c11
       replace H := Option.bind_eq_some_iff.mp H
       obtain ⟨t219, A120, H⟩ := H
       replace H : (if t219 = true then (plinthref25_Same.l0 k1 (wrap64 (x5_1 + 1)) l0_0 l1_0) else (some false)) = some r := H
       have A12 := Aside0.mk A120
       clear A120
       by_cases c13 : t219 = true
       ·subst c13
        have H1 : (plinthref25_Same.l0 k1 (wrap64 (x5_1 + 1)) l0_0 l1_0) = some r := by rw [if_pos rfl] at H; exact H
        clear H
        have H := H1
        clear H1
        have H' := Aside0.mk H
        clear H
        have hnb14 := NB215_216.out
        have hnc14 := NB216_215.out
        obtain ⟨hcz15_0, hfz15_0⟩ := cells1 BK215.out
        have p217 : 0 ≤ (x5_1 : Int) := of_decide_eq_true (by first | (with_reducible assumption) | assumption)
        have q217 : x5_1 < (l0_0.length : Int) := of_decide_eq_true (by first | (with_reducible assumption) | assumption)
        obtain ⟨ad217, A217_0, c217_0, e217, hx217_0, hl217_0, hi217_0⟩ := at_L1 HR0_0.out x5_1 p217 q217
        cases e217
        replace hx217_0 := (HB.out.cell (World.block_lt_of_cell? w _ hx217_0)).trans hx217_0
        have HR217_0 := Aside0.mk hi217_0
        have HC217_0 := Aside0.mk hl217_0
        clear hi217_0 hl217_0
        replace p217 := eq_true p217
        replace q217 := eq_true q217
        obtain ⟨hcz16_0, hfz16_0⟩ := cells1 BK216.out
        have p218 : 0 ≤ (x5_1 : Int) := of_decide_eq_true (by first | (with_reducible assumption) | assumption)
        have q218 : x5_1 < (l1_0.length : Int) := of_decide_eq_true (by first | (with_reducible assumption) | assumption)
        obtain ⟨ad218, A218_0, c218_0, e218, hx218_0, hl218_0, hi218_0⟩ := at_L1 HR1_0.out x5_1 p218 q218
        cases e218
        replace hx218_0 := (HB.out.cell (World.block_lt_of_cell? w _ hx218_0)).trans hx218_0
        have HR218_0 := Aside0.mk hi218_0
        have HC218_0 := Aside0.mk hl218_0
        clear hi218_0 hl218_0
        replace p218 := eq_true p218
        replace q218 := eq_true q218
        go_wp2_with (first | (go_at_call 54; (with_reducible refine (plinthref25_SameRow.calls k1 _ _ (rd_L1 l0_0 x5_1) _ _ (rd_L1 l1_0 x5_1) true _ ?side1 ?side2 ?side3 ?side4 A12.out).mono ?_); (case side1 => exact upC ((Kd.C_below HR217_0.out HB.out))); (case side2 => exact HC217_0.out); (case side3 => exact upC ((Kd.C_below HR218_0.out HB.out))); (case side4 => exact HC218_0.out); rintro e w' ⟨rfl, ⟨nd, rfl⟩⟩; (try first | exact ⟨rfl, _, World.drewN_drewN _ _ _⟩ | exact ⟨rfl, _, Eq.trans (World.drewN_drewN _ _ _) (congrArg (World.drewN _) (Nat.add_assoc _ _ _))⟩)))
        repeat (go_quiet (first | (go_at_call 54; (with_reducible refine (plinthref25_SameRow.calls k1 _ _ (rd_L1 l0_0 x5_1) _ _ (rd_L1 l1_0 x5_1) true _ ?side1 ?side2 ?side3 ?side4 A12.out).mono ?_); (case side1 => exact upC ((Kd.C_below HR217_0.out HB.out))); (case side2 => exact HC217_0.out); (case side3 => exact upC ((Kd.C_below HR218_0.out HB.out))); (case side4 => exact HC218_0.out); rintro e w' ⟨rfl, ⟨nd, rfl⟩⟩; (try first | exact ⟨rfl, _, World.drewN_drewN _ _ _⟩ | exact ⟨rfl, _, Eq.trans (World.drewN_drewN _ _ _) (congrArg (World.drewN _) (Nat.add_assoc _ _ _))⟩))); try go_wp2_with (first | (go_at_call 54; (with_reducible refine (plinthref25_SameRow.calls k1 _ _ (rd_L1 l0_0 x5_1) _ _ (rd_L1 l1_0 x5_1) true _ ?side1 ?side2 ?side3 ?side4 A12.out).mono ?_); (case side1 => exact upC ((Kd.C_below HR217_0.out HB.out))); (case side2 => exact HC217_0.out); (case side3 => exact upC ((Kd.C_below HR218_0.out HB.out))); (case side4 => exact HC218_0.out); rintro e w' ⟨rfl, ⟨nd, rfl⟩⟩; (try first | exact ⟨rfl, _, World.drewN_drewN _ _ _⟩ | exact ⟨rfl, _, Eq.trans (World.drewN_drewN _ _ _) (congrArg (World.drewN _) (Nat.add_assoc _ _ _))⟩))))
        go_roundg k1
        case measure => have := HK1.out; omega
        case rel => exact ⟨(wrap64 (x5_1 + 1)), (by first | rfl | (simp; done) | (simp [*]; done)), H', ⟨by have := HK1.out; omega⟩, ⟨by refine upK ?_; exact BK215.out⟩, ⟨by refine upK ?_; exact BK216.out⟩, ⟨upB2 HB.out GE215.out GE216.out⟩⟩
       ·replace c13 := Bool.eq_false_iff.mpr c13
        subst c13
        have H1 : (some false) = some r := by rw [if_neg (show ¬ (false = true) by decide)] at H; exact H
        clear H
        have H := H1
        clear H1
        obtain rfl := Option.some.inj H
        have hnb17 := NB215_216.out
        have hnc17 := NB216_215.out
        obtain ⟨hcz18_0, hfz18_0⟩ := cells1 BK215.out
        have p217 : 0 ≤ (x5_1 : Int) := of_decide_eq_true (by first | (with_reducible assumption) | assumption)
        have q217 : x5_1 < (l0_0.length : Int) := of_decide_eq_true (by first | (with_reducible assumption) | assumption)
        obtain ⟨ad217, A217_0, c217_0, e217, hx217_0, hl217_0, hi217_0⟩ := at_L1 HR0_0.out x5_1 p217 q217
        cases e217
        replace hx217_0 := (HB.out.cell (World.block_lt_of_cell? w _ hx217_0)).trans hx217_0
        have HR217_0 := Aside0.mk hi217_0
        have HC217_0 := Aside0.mk hl217_0
        clear hi217_0 hl217_0
        replace p217 := eq_true p217
        replace q217 := eq_true q217
        obtain ⟨hcz19_0, hfz19_0⟩ := cells1 BK216.out
        have p218 : 0 ≤ (x5_1 : Int) := of_decide_eq_true (by first | (with_reducible assumption) | assumption)
        have q218 : x5_1 < (l1_0.length : Int) := of_decide_eq_true (by first | (with_reducible assumption) | assumption)
        obtain ⟨ad218, A218_0, c218_0, e218, hx218_0, hl218_0, hi218_0⟩ := at_L1 HR1_0.out x5_1 p218 q218
        cases e218
        replace hx218_0 := (HB.out.cell (World.block_lt_of_cell? w _ hx218_0)).trans hx218_0
        have HR218_0 := Aside0.mk hi218_0
        have HC218_0 := Aside0.mk hl218_0
        clear hi218_0 hl218_0
        replace p218 := eq_true p218
        replace q218 := eq_true q218
        go_wp2_with (first | (go_at_call 54; (with_reducible refine (plinthref25_SameRow.calls k1 _ _ (rd_L1 l0_0 x5_1) _ _ (rd_L1 l1_0 x5_1) false _ ?side1 ?side2 ?side3 ?side4 A12.out).mono ?_); (case side1 => exact upC ((Kd.C_below HR217_0.out HB.out))); (case side2 => exact HC217_0.out); (case side3 => exact upC ((Kd.C_below HR218_0.out HB.out))); (case side4 => exact HC218_0.out); rintro e w' ⟨rfl, ⟨nd, rfl⟩⟩; (try first | exact ⟨rfl, _, World.drewN_drewN _ _ _⟩ | exact ⟨rfl, _, Eq.trans (World.drewN_drewN _ _ _) (congrArg (World.drewN _) (Nat.add_assoc _ _ _))⟩)))
        repeat (go_quiet (first | (go_at_call 54; (with_reducible refine (plinthref25_SameRow.calls k1 _ _ (rd_L1 l0_0 x5_1) _ _ (rd_L1 l1_0 x5_1) false _ ?side1 ?side2 ?side3 ?side4 A12.out).mono ?_); (case side1 => exact upC ((Kd.C_below HR217_0.out HB.out))); (case side2 => exact HC217_0.out); (case side3 => exact upC ((Kd.C_below HR218_0.out HB.out))); (case side4 => exact HC218_0.out); rintro e w' ⟨rfl, ⟨nd, rfl⟩⟩; (try first | exact ⟨rfl, _, World.drewN_drewN _ _ _⟩ | exact ⟨rfl, _, Eq.trans (World.drewN_drewN _ _ _) (congrArg (World.drewN _) (Nat.add_assoc _ _ _))⟩))); try go_wp2_with (first | (go_at_call 54; (with_reducible refine (plinthref25_SameRow.calls k1 _ _ (rd_L1 l0_0 x5_1) _ _ (rd_L1 l1_0 x5_1) false _ ?side1 ?side2 ?side3 ?side4 A12.out).mono ?_); (case side1 => exact upC ((Kd.C_below HR217_0.out HB.out))); (case side2 => exact HC217_0.out); (case side3 => exact upC ((Kd.C_below HR218_0.out HB.out))); (case side4 => exact HC218_0.out); rintro e w' ⟨rfl, ⟨nd, rfl⟩⟩; (try first | exact ⟨rfl, _, World.drewN_drewN _ _ _⟩ | exact ⟨rfl, _, Eq.trans (World.drewN_drewN _ _ _) (congrArg (World.drewN _) (Nat.add_assoc _ _ _))⟩))))
        go_ret
        exact ⟨by first | rfl | (simp [errW_none, errW_some] <;> rfl) | (simp [*, errW_none, errW_some] <;> rfl), upB2 HB.out GE215.out GE216.out⟩
      ·rw [if_neg c11] at H
       exact absurd H (by simp)
     ·rw [if_neg c10] at H
      exact absurd H (by simp)
    ·rw [if_neg c9] at H
     have c9b0 : decide (x5_1 < (l0_0.length : Int)) = false := decide_eq_false c9
     clear c9
     obtain rfl := Option.some.inj H
     have hnb20 := NB215_216.out
     have hnc20 := NB216_215.out
     obtain ⟨hcz21_0, hfz21_0⟩ := cells1 BK215.out
     go_wp2
     repeat (go_quiet (fail); try go_wp2)
     go_ret
     exact ⟨by first | rfl | (simp [errW_none, errW_some] <;> rfl) | (simp [*, errW_none, errW_some] <;> rfl), upB2 HB.out GE215.out GE216.out⟩
 ·rw [if_neg c3] at H
  have c3b0 : ((l0_0.length : Int) == (l1_0.length : Int)) = false := beq_eq_false_iff_ne.mpr c3
  have c3b1 : ((l0_0.length : Int) != (l1_0.length : Int)) = true := bne_iff_ne.mpr c3
  have c3b2 : (l0_0.length == l1_0.length) = false := by first | simpa using c3 | (simp at c3 ⊢; omega)
  obtain rfl := Option.some.inj H
  go_enter Try.func27, Try.ntmps27
  go_wp2_with (first | ((with_reducible refine gate_dst (N := 2) rfl ?_); refine box_event ?hg (N := 2) ?hd (cs := #[.slice A0_0 l0_0.length c0_0]) (t := 24) ?hr ?_; (case hd => rfl); (case hg => rfl); (case hr => first | (go_simp; done) | (go_simp; rfl)); intro gb215 hg w22 hbox hb; have BK215 := Aside0.mk (hbox); have GW215 := Aside0.mk ((by rw [hg]; exact (below_size (upB0 HB.out)) : w.heap.size ≤ gb215)); have GE215 := Aside0.mk ((by rw [hg]; exact (below_size (upB0 HB.out)) : w.heap.size ≤ gb215)); replace HB := Aside0.mk (below_step (upB0 HB.out) hb); clear hb hbox hg) | ((with_reducible refine gate_dst (N := 3) rfl ?_); refine box_event ?hg (N := 3) ?hd (cs := #[.slice A1_0 l1_0.length c1_0]) (t := 24) ?hr ?_; (case hd => rfl); (case hg => rfl); (case hr => first | (go_simp; done) | (go_simp; rfl)); intro gb216 hg w23 hbox hb; have BK216 := Aside0.mk (hbox); have GW216 := Aside0.mk ((by rw [hg]; exact (below_size (upB1 HB.out GE215.out)) : w.heap.size ≤ gb216)); have GE216 := Aside0.mk ((by rw [hg]; exact (below_size (upB1 HB.out GE215.out)) : w.heap.size ≤ gb216)); replace HB := Aside0.mk (below_step (upB1 HB.out GE215.out) hb); have NB215_216 := Aside0.mk ((by rw [hg]; exact Nat.ne_of_lt (blk_lt (upK BK215.out)) : gb215 ≠ gb216)); have NB216_215 := Aside0.mk ((by rw [hg]; exact Nat.ne_of_gt (blk_lt (upK BK215.out)) : gb216 ≠ gb215)); replace BK215 := Aside0.mk (blk_below (upK BK215.out) hb); clear hb hbox hg; have hnb24 := NB215_216.out; have hnc24 := NB216_215.out; obtain ⟨hcz25_0, hfz25_0⟩ := cells1 BK215.out; obtain ⟨hcz26_0, hfz26_0⟩ := cells1 BK216.out))
  repeat (go_quiet (first | ((with_reducible refine gate_dst (N := 2) rfl ?_); refine box_event ?hg (N := 2) ?hd (cs := #[.slice A0_0 l0_0.length c0_0]) (t := 24) ?hr ?_; (case hd => rfl); (case hg => rfl); (case hr => first | (go_simp; done) | (go_simp; rfl)); intro gb215 hg w22 hbox hb; have BK215 := Aside0.mk (hbox); have GW215 := Aside0.mk ((by rw [hg]; exact (below_size (upB0 HB.out)) : w.heap.size ≤ gb215)); have GE215 := Aside0.mk ((by rw [hg]; exact (below_size (upB0 HB.out)) : w.heap.size ≤ gb215)); replace HB := Aside0.mk (below_step (upB0 HB.out) hb); clear hb hbox hg) | ((with_reducible refine gate_dst (N := 3) rfl ?_); refine box_event ?hg (N := 3) ?hd (cs := #[.slice A1_0 l1_0.length c1_0]) (t := 24) ?hr ?_; (case hd => rfl); (case hg => rfl); (case hr => first | (go_simp; done) | (go_simp; rfl)); intro gb216 hg w23 hbox hb; have BK216 := Aside0.mk (hbox); have GW216 := Aside0.mk ((by rw [hg]; exact (below_size (upB1 HB.out GE215.out)) : w.heap.size ≤ gb216)); have GE216 := Aside0.mk ((by rw [hg]; exact (below_size (upB1 HB.out GE215.out)) : w.heap.size ≤ gb216)); replace HB := Aside0.mk (below_step (upB1 HB.out GE215.out) hb); have NB215_216 := Aside0.mk ((by rw [hg]; exact Nat.ne_of_lt (blk_lt (upK BK215.out)) : gb215 ≠ gb216)); have NB216_215 := Aside0.mk ((by rw [hg]; exact Nat.ne_of_gt (blk_lt (upK BK215.out)) : gb216 ≠ gb215)); replace BK215 := Aside0.mk (blk_below (upK BK215.out) hb); clear hb hbox hg; have hnb24 := NB215_216.out; have hnc24 := NB216_215.out; obtain ⟨hcz25_0, hfz25_0⟩ := cells1 BK215.out; obtain ⟨hcz26_0, hfz26_0⟩ := cells1 BK216.out)); try go_wp2_with (first | ((with_reducible refine gate_dst (N := 2) rfl ?_); refine box_event ?hg (N := 2) ?hd (cs := #[.slice A0_0 l0_0.length c0_0]) (t := 24) ?hr ?_; (case hd => rfl); (case hg => rfl); (case hr => first | (go_simp; done) | (go_simp; rfl)); intro gb215 hg w22 hbox hb; have BK215 := Aside0.mk (hbox); have GW215 := Aside0.mk ((by rw [hg]; exact (below_size (upB0 HB.out)) : w.heap.size ≤ gb215)); have GE215 := Aside0.mk ((by rw [hg]; exact (below_size (upB0 HB.out)) : w.heap.size ≤ gb215)); replace HB := Aside0.mk (below_step (upB0 HB.out) hb); clear hb hbox hg) | ((with_reducible refine gate_dst (N := 3) rfl ?_); refine box_event ?hg (N := 3) ?hd (cs := #[.slice A1_0 l1_0.length c1_0]) (t := 24) ?hr ?_; (case hd => rfl); (case hg => rfl); (case hr => first | (go_simp; done) | (go_simp; rfl)); intro gb216 hg w23 hbox hb; have BK216 := Aside0.mk (hbox); have GW216 := Aside0.mk ((by rw [hg]; exact (below_size (upB1 HB.out GE215.out)) : w.heap.size ≤ gb216)); have GE216 := Aside0.mk ((by rw [hg]; exact (below_size (upB1 HB.out GE215.out)) : w.heap.size ≤ gb216)); replace HB := Aside0.mk (below_step (upB1 HB.out GE215.out) hb); have NB215_216 := Aside0.mk ((by rw [hg]; exact Nat.ne_of_lt (blk_lt (upK BK215.out)) : gb215 ≠ gb216)); have NB216_215 := Aside0.mk ((by rw [hg]; exact Nat.ne_of_gt (blk_lt (upK BK215.out)) : gb216 ≠ gb215)); replace BK215 := Aside0.mk (blk_below (upK BK215.out) hb); clear hb hbox hg; have hnb24 := NB215_216.out; have hnc24 := NB216_215.out; obtain ⟨hcz25_0, hfz25_0⟩ := cells1 BK215.out; obtain ⟨hcz26_0, hfz26_0⟩ := cells1 BK216.out)))
  go_ret
  exact ⟨by first | rfl | (simp [errW_none, errW_some] <;> rfl) | (simp [*, errW_none, errW_some] <;> rfl), upB2 HB.out GE215.out GE216.out⟩

end Go.Proofs.Ytbmmddngadnofaa.F
