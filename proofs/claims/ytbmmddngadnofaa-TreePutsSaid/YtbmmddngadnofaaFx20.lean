-- Written by ext (this session's own program).
-- in short rows (short.py)
import Derived.Test.YtbmmddngadnofaaFx0
import Derived.Test.YtbmmddngadnofaaFx15
import Derived.Test.YtbmmddngadnofaaFx19
namespace Go.Proofs.Ytbmmddngadnofaa.F
open Go.RowKit Go.Proofs.YtbmmddngadnofaaW.PrintWords Go.Proofs.YtbmmddngadnofaaW.PrintLast Go.Proofs.YtbmmddngadnofaaW.PrintMore
attribute [local go_sem] max2_int min2_int max_two min_two max_three min_three max_four min_four   -- for this text's walks alone
set_option linter.unusedVariables false
set_option linter.unusedSimpArgs false

/-! ### plinthref25_Prove: function 15 -/
mutual
def plinthref25_Prove.j0 : Nat → Int → Bool → List (List Int) → Option (Int × (List (List Int)) × Int)
 | 0, _, _, _ => none
 | k + 1, x1, x22, x229000 => if x22 = true then (some (0, ([] : List (List Int)), 5)) else (plinthref25_Prove.l0 k x1 0 x229000 x1 ([] : List (List Int)))
def plinthref25_Prove.l0 : Nat → Int → Int → List (List Int) → Int → List (List Int) → Option (Int × (List (List Int)) × Int)
 | 0, _, _, _, _, _ => none
 | k + 1, x1, x7, x229000, x233000, x233001 => if x7 < (wrap64 ((x229000.length : Int) - 1)) then (if 0 ≤ x7 then (if x7 < (x229000.length : Int) then ((plinthref25_row.f (rd_L1 x229000 x7) x1).bind fun t234 => (if x233001.length < 5864062014805 then (plinthref25_Prove.l0 k (wrap64 (Int.tdiv x1 4)) (wrap64 (x7 + 1)) x229000 x233000 (x233001 ++ [t234])) else (none))) else (none)) else (none)) else (some (x233000, x233001, 0))
end
def plinthref25_Prove.f (k : Nat) (l0_0 : List (List Int)) (a1 : Int) : Option (Int × (List (List Int)) × Int) := (plinthref25_Check.f k l0_0).bind fun t230 => (if t230 = 0 then (if a1 < 0 then (plinthref25_Prove.j0 k a1 true l0_0) else (if 0 < (l0_0.length : Int) then (plinthref25_Prove.j0 k a1 (decide (a1 ≥ ((rd_L1 l0_0 0).length : Int))) l0_0) else (none))) else (some (0, ([] : List (List Int)), 250)))
theorem plinthref25_Prove.mono_l : ∀ k, (∀ y0 y1 y2, LeO (plinthref25_Prove.j0 k y0 y1 y2) (plinthref25_Prove.j0 (k + 1) y0 y1 y2)) ∧ (∀ y0 y1 y2 y3 y4, LeO (plinthref25_Prove.l0 k y0 y1 y2 y3 y4) (plinthref25_Prove.l0 (k + 1) y0 y1 y2 y3 y4))
 | 0 => ⟨fun _ _ _ r h => by simp [plinthref25_Prove.j0] at h, fun _ _ _ _ _ r h => by simp [plinthref25_Prove.l0] at h⟩
 | k + 1 => by
  obtain ⟨ih0, ih1⟩ := plinthref25_Prove.mono_l k
  refine ⟨?_, ?_⟩
  ·intro y0 y1 y2
   unfold plinthref25_Prove.j0
   repeat' first
   | (with_reducible exact ih0 _ _ _)
   | (with_reducible exact ih1 _ _ _ _ _)
   | (with_reducible exact plinthref25_Check.mono _ _)
   | (with_reducible exact LeO.refl _)
   | (with_reducible exact LeO.none _)
   | (with_reducible refine LeO.ite ?_ ?_)
   | (with_reducible refine LeO.bind ?_ (fun _ => ?_))
   | exact ih0 _ _ _
   | exact ih1 _ _ _ _ _
   | exact plinthref25_Check.mono _ _
   | exact LeO.none _
   | refine LeO.ite ?_ ?_
   | refine LeO.bind ?_ (fun _ => ?_)
  ·intro y0 y1 y2 y3 y4
   unfold plinthref25_Prove.l0
   repeat' first
   | (with_reducible exact ih0 _ _ _)
   | (with_reducible exact ih1 _ _ _ _ _)
   | (with_reducible exact plinthref25_Check.mono _ _)
   | (with_reducible exact LeO.refl _)
   | (with_reducible exact LeO.none _)
   | (with_reducible refine LeO.ite ?_ ?_)
   | (with_reducible refine LeO.bind ?_ (fun _ => ?_))
   | exact ih0 _ _ _
   | exact ih1 _ _ _ _ _
   | exact plinthref25_Check.mono _ _
   | exact LeO.none _
   | refine LeO.ite ?_ ?_
   | refine LeO.bind ?_ (fun _ => ?_)
theorem plinthref25_Prove.mono : ∀ a0 a1 k, LeO (plinthref25_Prove.f k a0 a1) (plinthref25_Prove.f (k + 1) a0 a1) := by
 intro a0 a1 k
 obtain ⟨ih0, ih1⟩ := plinthref25_Prove.mono_l k
 unfold plinthref25_Prove.f
 repeat' first
   | (with_reducible exact ih0 _ _ _)
   | (with_reducible exact ih1 _ _ _ _ _)
   | (with_reducible exact plinthref25_Check.mono _ _)
   | (with_reducible exact LeO.refl _)
   | (with_reducible exact LeO.none _)
   | (with_reducible refine LeO.ite ?_ ?_)
   | (with_reducible refine LeO.bind ?_ (fun _ => ?_))
   | exact ih0 _ _ _
   | exact ih1 _ _ _ _ _
   | exact plinthref25_Check.mono _ _
   | exact LeO.none _
   | refine LeO.ite ?_ ?_
   | refine LeO.bind ?_ (fun _ => ?_)
def plinthref25_Prove.T9 : Bool × List (List Nat × List Nat) := (true, [([], []), ([0], [0]), ([], []), ([2], [2]), ([], []), ([3, 4], [3, 4]), ([5], [5]), ([], []), ([6, 7], [6, 7]), ([8], [8]), ([1, 9, 8], [1, 9]), ([0, 1, 2, 3, 4, 5, 6, 7, 8, 9, 10], []), ([11, 10, 10, 0, 1, 2, 3, 4, 5, 6, 7, 8, 9, 10], [10, 11])])
def plinthref25_Prove.B9 : List Nat := [0, 1, 0, 4, 0, 28, 60, 0, 252, 508, 1023, 2047, 4095]
theorem plinthref25_Prove.tab9 : rtab .any (opsOf Try.f15 9) = plinthref25_Prove.T9 := by kernel_rfl
theorem plinthref25_Prove.bits9 : waitsOk plinthref25_Prove.T9.2 plinthref25_Prove.B9 = true := by kernel_rfl
set_option maxHeartbeats 8000000 in
set_option maxRecDepth 100000 in
theorem plinthref25_Prove.calls (k : Nat) (A0_0 : Option Addr) (c0_0 : Nat) (l0_0 : List (List Int)) (a1 : Int) (r1 : Int) (r2 : List (List Int)) (r3 : Int) (w : World) (hr0_0 : Kd.C (Kd.slice 25 (Kd.int .u32)) w A0_0 l0_0.length l0_0) (hc0_0 : l0_0.length ≤ c0_0) (h : plinthref25_Prove.f k l0_0 a1 = some (r1, r2, r3)) :
  Calls Try.prog 15 #[.agg #[.slice A0_0 l0_0.length c0_0], .int .i64 a1] w fun e w' => ∃ v1_ : Value, e = .returned (.tuple #[.agg #[.int .i64 r1, v1_], .int .i64 r3]) ∧ Kd.S (Kd.slice 25 (Kd.int .u32)) 40 w' w.heap.size (fun _ => True) v1_ r2 ∧ Below w.heap.size w w' := by
 have hu24 := Try.underlying24
 have hu27 := Try.underlying27
 have HR0_0 := Aside0.mk hr0_0
 have HC0_0 := Aside0.mk hc0_0
 clear hr0_0 hc0_0
 have HB := Aside0.mk (Below.refl w.heap.size w)
 have H : ((plinthref25_Check.f k l0_0).bind fun t230 => (if t230 = 0 then (if a1 < 0 then (plinthref25_Prove.j0 k a1 true l0_0) else (if 0 < (l0_0.length : Int) then (plinthref25_Prove.j0 k a1 (decide (a1 ≥ ((rd_L1 l0_0 0).length : Int))) l0_0) else (none))) else (some (0, ([] : List (List Int)), 250)))) = some (r1, r2, r3) := h
 clear h
 replace H := Option.bind_eq_some_iff.mp H
 obtain ⟨t230, A30, H⟩ := H
 replace H : (if t230 = 0 then (if a1 < 0 then (plinthref25_Prove.j0 k a1 true l0_0) else (if 0 < (l0_0.length : Int) then (plinthref25_Prove.j0 k a1 (decide (a1 ≥ ((rd_L1 l0_0 0).length : Int))) l0_0) else (none))) else (some (0, ([] : List (List Int)), 250))) = some (r1, r2, r3) := H
 have A3 := Aside0.mk A30
 clear A30
 by_cases c4 : t230 = 0
 ·rw [if_pos c4] at H
  have c4b0 : (t230 == 0) = true := beq_iff_eq.mpr c4
  have c4b1 : (t230 != 0) = false := bne_eq_false_iff_eq.mpr c4
  clear c4
  have HC5 := Aside0.mk H
  clear H
  go_enter Try.func15, Try.ntmps15
  go_upto_region 3 with (first | ((with_reducible refine gate_dst (N := 2) rfl ?_); (try (refine gate_guard (by rfl) ?_; dsimp only)); refine box_event ?hg (N := 2) ?hd (cs := #[.slice A0_0 l0_0.length c0_0]) (t := 24) ?hr ?_; (case hd => rfl); (case hg => rfl); (case hr => first | (go_simp; done) | (go_simp; rfl)); intro gb228 hg w6 hbox hb; have BK228 := Aside0.mk (hbox); have GW228 := Aside0.mk ((by rw [hg]; exact (below_size (upB0 HB.out)) : w.heap.size ≤ gb228)); have GE228 := Aside0.mk ((by rw [hg]; exact (below_size (upB0 HB.out)) : w.heap.size ≤ gb228)); replace HB := Aside0.mk (below_step (upB0 HB.out) hb); clear hb hbox hg) | ((with_reducible refine gate_dst (N := 4) rfl ?_); (try (refine gate_guard (by rfl) ?_; dsimp only)); refine box_event ?hg (N := 4) ?hd (cs := #[.int .i64 0, .slice none 0 0]) (t := 27) ?hr ?_; (case hd => rfl); (case hg => rfl); (case hr => first | (go_simp; done) | (go_simp; rfl)); intro gb229 hg w7 hbox hb; have BK229 := Aside0.mk (hbox); have GW229 := Aside0.mk ((by rw [hg]; exact (below_size (upB1 HB.out GE228.out)) : w.heap.size ≤ gb229)); have GE229 := Aside0.mk ((by rw [hg]; exact (below_size (upB1 HB.out GE228.out)) : w.heap.size ≤ gb229)); replace HB := Aside0.mk (below_step (upB1 HB.out GE228.out) hb); have NB228_229 := Aside0.mk ((by rw [hg]; exact Nat.ne_of_lt (blk_lt (upK BK228.out)) : gb228 ≠ gb229)); have NB229_228 := Aside0.mk ((by rw [hg]; exact Nat.ne_of_gt (blk_lt (upK BK228.out)) : gb229 ≠ gb228)); replace BK228 := Aside0.mk (blk_below (upK BK228.out) hb); clear hb hbox hg; have hnb8 := NB228_229.out; have hnc8 := NB229_228.out; obtain ⟨hcz9_0, hfz9_0⟩ := cells1 BK228.out) | ((with_reducible refine gate_callee (f := 33) rfl ?_); refine goesL_ (some 9) rfl rfl Try.func33 (by kernel_rfl) rfl #[.agg #[.slice A0_0 l0_0.length c0_0]] rfl argA ?_; (with_reducible refine (plinthref25_Check.calls k _ _ l0_0 t230 _ ?side1 ?side2 A3.out).mono ?_); (case side1 => exact upC ((Kd.C_below HR0_0.out HB.out))); (case side2 => exact HC0_0.out); rintro e w10 ⟨rfl, hb⟩; refine ⟨_, rfl, ?_⟩; replace BK228 := Aside0.mk (blk_below (upK BK228.out) hb); replace BK229 := Aside0.mk (blk_below (upK BK229.out) hb); replace HB := Aside0.mk (below_step (upB2 HB.out GE228.out GE229.out) hb); (try clear hb); (try clear hb2); (try clear hk); (try clear hi)))
  (try simp only [Act.put, List.setIfInBounds_toArray, List.set_cons_zero, List.set_cons_succ])
  go_cut [22] (fun v22 wc => ∃ (kq : Nat) (x22_4 : Bool), v22 = .bool x22_4 ∧ Aside0 (plinthref25_Prove.j0 kq a1 x22_4 l0_0 = some (r1, r2, r3)) ∧ Aside0 (kq ≤ k) ∧ Aside0 (wc.heap[gb228]? = some (.cells #[(.slice A0_0 l0_0.length c0_0)] 24 (0, 0))) ∧ Aside0 (wc.heap[gb229]? = some (.cells #[.int .i64 0, (.slice none 0 0)] 27 (0, 0))) ∧ Aside0 (Below w.heap.size w wc))
  case first =>
   have H := HC5.out
   clear HC5
   by_cases c11 : a1 < 0
   ·rw [if_pos c11] at H
    have c11b0 : decide (a1 < 0) = true := decide_eq_true c11
    clear c11
    (first | rw [c11b0] | (simp only [i64_w, i32_w]; rw [c11b0]) | skip)
    have H' := Aside0.mk H
    clear H
    go_wp2
    go_meet
    case rel => exact ⟨_, (true), (by first | rfl | (simp; done) | (simp [*]; done)), H', ⟨by first | omega | exact Nat.le_refl _⟩, ⟨by refine upK ?_; exact BK228.out⟩, ⟨by refine upK ?_; exact BK229.out⟩, ⟨upB2 HB.out GE228.out GE229.out⟩⟩
   ·rw [if_neg c11] at H
    have c11b0 : decide (a1 < 0) = false := decide_eq_false c11
    clear c11
    (first | rw [c11b0] | (simp only [i64_w, i32_w]; rw [c11b0]) | skip)
    by_cases c12 : 0 < (l0_0.length : Int)
    ·rw [if_pos c12] at H
     have c12b0 : decide (0 < (l0_0.length : Int)) = true := decide_eq_true c12
     have c12b1 : decide (0 < l0_0.length) = true := decide_eq_true (by omega)
     clear c12
     have H' := Aside0.mk H
     clear H
     have hnb13 := NB228_229.out
     have hnc13 := NB229_228.out
     obtain ⟨hcz14_0, hfz14_0⟩ := cells1 BK228.out
     have p231 : 0 ≤ (0 : Int) := (by omega)
     have q231 : 0 < (l0_0.length : Int) := of_decide_eq_true (by first | (with_reducible assumption) | assumption)
     obtain ⟨ad231, A231_0, c231_0, e231, hx231_0, hl231_0, hi231_0⟩ := at_L1 HR0_0.out 0 p231 q231
     cases e231
     have qi231 : (0 < l0_0.length) = True := eq_true (by omega)
     (try rw [show ((0 : Int)).toNat = 0 from rfl] at hx231_0)
     (try rw [Addr.add_zero'] at hx231_0)
     replace hx231_0 := (HB.out.cell (World.block_lt_of_cell? w _ hx231_0)).trans hx231_0
     have HR231_0 := Aside0.mk hi231_0
     have HC231_0 := Aside0.mk hl231_0
     clear hi231_0 hl231_0
     replace p231 := eq_true p231
     replace q231 := eq_true q231
     go_wp2
     go_meet
     case rel => exact ⟨_, (decide (a1 ≥ ((rd_L1 l0_0 0).length : Int))), (by first | rfl | (simp; done) | (simp [*]; done)), H', ⟨by first | omega | exact Nat.le_refl _⟩, ⟨by refine upK ?_; exact BK228.out⟩, ⟨by refine upK ?_; exact BK229.out⟩, ⟨upB2 HB.out GE228.out GE229.out⟩⟩
    ·rw [if_neg c12] at H
     exact absurd H (by simp)
  case rest =>
   clear HC5
   (try clear c1); (try clear c2); (try clear p2); (try clear q2); (try clear hx2); (try clear qi2); (try clear c3); (try clear c4); (try clear c4b0); (try clear c4b1); (try clear c8); (try clear c11); (try clear c11b0); (try clear c12); (try clear c12b0); (try clear c12b1); (try clear c13); (try clear hcz14_0); (try clear hcz9_0); (try clear hfz14_0); (try clear hfz9_0); (try clear hx231_0); (try clear p231); (try clear q231)
   obtain ⟨kq, x22_4, rfl, HA, HJ4, BK228, BK229, HB⟩ := hcut
   cases kq with
   | zero => exact absurd HA.out (by simp [plinthref25_Prove.j0])
   | succ kj4 =>
    have H := HA.out
    clear HA
    simp only [plinthref25_Prove.j0] at H
    by_cases c15 : x22_4 = true
    ·subst c15
     have H1 : (some (0, ([] : List (List Int)), 5)) = some (r1, r2, r3) := by rw [if_pos rfl] at H; exact H
     clear H
     have H := H1
     clear H1
     simp only [Option.some.injEq, Prod.mk.injEq] at H
     obtain ⟨rfl, rfl, rfl⟩ := H
     have hnb16 := NB229_228.out
     have hnc16 := NB228_229.out
     obtain ⟨hcz17_0, hcz17_1, hfz17_0, hfz17_1⟩ := cells2 BK229.out
     go_wp2
     refine bodyPost_ret (results_ct rfl _ _ gb229 27 #[.int .i64 0, .slice none 0 0] (0, 0) _ rfl (by refine upK ?_; refine blk_put (cs := #[.int .i64 0, .slice none 0 0]) ?_ 1 _ rfl; refine upK ?_; refine blk_put (cs := #[.int .i64 0, .slice none 0 0]) ?_ 0 _ rfl; refine upK ?_; exact BK229.out) Try.underlying27 rfl (by kernel_rfl)) rfl ?_
     exact ⟨_, by first | rfl | (simp [errW_none, errW_some] <;> rfl) | (simp [*, errW_none, errW_some] <;> rfl), by first | exact Kd.S_nil _ _ _ _ _ | exact Kd.N_nil _ _ _ _ _ | exact Kd.V_nil _ _ _ _ _ | exact Kd.Q_nil _ _ _ _ _ | exact Kd.R_nil _ _ _ _ _, upB2 HB.out GE228.out GE229.out⟩
    ·replace c15 := Bool.eq_false_iff.mpr c15
     subst c15
     have H1 : (plinthref25_Prove.l0 kj4 a1 0 l0_0 a1 ([] : List (List Int))) = some (r1, r2, r3) := by rw [if_neg (show ¬ (false = true) by decide)] at H; exact H
     clear H
     have H := H1
     clear H1
     have H' := Aside0.mk H
     clear H
     go_wp2_with (first | ((with_reducible refine gate_dst (N := 6) rfl ?_); (try (refine gate_guard (by rfl) ?_; dsimp only)); refine box_event ?hg (N := 6) ?hd (cs := #[.int .i64 0, .slice none 0 0]) (t := 27) ?hr ?_; (case hd => rfl); (case hg => rfl); (case hr => first | (go_simp; done) | (go_simp; rfl)); intro gb232 hg w18 hbox hb; have BK232 := Aside0.mk (hbox); have GW232 := Aside0.mk ((by rw [hg]; exact (below_size (upB2 HB.out GE228.out GE229.out)) : w.heap.size ≤ gb232)); have GE232 := Aside0.mk ((by rw [hg]; exact (below_size (upB2 HB.out GE228.out GE229.out)) : w.heap.size ≤ gb232)); replace HB := Aside0.mk (below_step (upB2 HB.out GE228.out GE229.out) hb); have NB228_232 := Aside0.mk ((by rw [hg]; exact Nat.ne_of_lt (blk_lt (upK BK228.out)) : gb228 ≠ gb232)); have NB232_228 := Aside0.mk ((by rw [hg]; exact Nat.ne_of_gt (blk_lt (upK BK228.out)) : gb232 ≠ gb228)); replace BK228 := Aside0.mk (blk_below (upK BK228.out) hb); have NB229_232 := Aside0.mk ((by rw [hg]; exact Nat.ne_of_lt (blk_lt (upK BK229.out)) : gb229 ≠ gb232)); have NB232_229 := Aside0.mk ((by rw [hg]; exact Nat.ne_of_gt (blk_lt (upK BK229.out)) : gb232 ≠ gb229)); replace BK229 := Aside0.mk (blk_below (upK BK229.out) hb); clear hb hbox hg; have hnb19 := NB232_228.out; have hnc19 := NB228_232.out; have hnb20 := NB232_229.out; have hnc20 := NB229_232.out; obtain ⟨hcz21_0, hcz21_1, hfz21_0, hfz21_1⟩ := cells2 BK232.out))
     go_loopg [1, 7] kj4 (fun kq v1 v7 w' => ∃ (x1_2 : Int) (x7_2 : Int) (x233001_2 : List (List Int)) (u233001 : Value), v1 = .int .i64 x1_2 ∧ v7 = .int .i64 x7_2 ∧ Aside0 (plinthref25_Prove.l0 kq x1_2 x7_2 l0_0 a1 x233001_2 = some (r1, r2, r3)) ∧ Aside0 (kq ≤ kj4) ∧ Aside0 (Kd.S (Kd.slice 25 (Kd.int .u32)) 40 w' w.heap.size (fun _ => True) u233001 x233001_2) ∧ Aside0 (w'.heap[gb228]? = some (.cells #[(.slice A0_0 l0_0.length c0_0)] 24 (0, 0))) ∧ Aside0 (w'.heap[gb229]? = some (.cells #[.int .i64 0, (.slice none 0 0)] 27 (0, 0))) ∧ Aside0 (w'.heap[gb232]? = some (.cells #[.int .i64 a1, u233001] 27 (0, 0))) ∧ Aside0 (Below w.heap.size w w'))
     case atStart => exact ⟨(a1), (0), (([] : List (List Int))), (.slice none 0 0), (by first | rfl | (simp; done) | (simp [*]; done)), (by first | rfl | (simp; done) | (simp [*]; done)), H', ⟨Nat.le_refl _⟩, ⟨by first | exact Kd.S_nil _ _ _ _ _ | exact Kd.N_nil _ _ _ _ _ | exact Kd.V_nil _ _ _ _ _ | exact Kd.Q_nil _ _ _ _ _ | exact Kd.R_nil _ _ _ _ _⟩, ⟨by refine upK ?_; refine blk_far ?_ NB228_232.out _; refine upK ?_; refine blk_far ?_ NB228_232.out _; refine upK ?_; exact BK228.out⟩, ⟨by refine upK ?_; refine blk_far ?_ NB229_232.out _; refine upK ?_; refine blk_far ?_ NB229_232.out _; refine upK ?_; exact BK229.out⟩, ⟨by refine upK ?_; refine blk_put (cs := #[.int .i64 a1, .slice none 0 0]) ?_ 1 _ rfl; refine upK ?_; refine blk_put (cs := #[.int .i64 0, .slice none 0 0]) ?_ 0 _ rfl; refine upK ?_; exact BK232.out⟩, ⟨upB3 HB.out GE228.out GE229.out GE232.out⟩⟩
     case round =>
      clear H'
      (try clear c1); (try clear c2); (try clear p2); (try clear q2); (try clear hx2); (try clear qi2); (try clear c3); (try clear c4); (try clear c4b0); (try clear c4b1); (try clear c8); (try clear c11); (try clear c11b0); (try clear c12); (try clear c12b0); (try clear c12b1); (try clear c13); (try clear c15); (try clear c16); (try clear c19); (try clear c20); (try clear hcz14_0); (try clear hcz17_0); (try clear hcz17_1); (try clear hcz21_0); (try clear hcz21_1); (try clear hcz9_0); (try clear hfz14_0); (try clear hfz17_0); (try clear hfz17_1); (try clear hfz21_0); (try clear hfz21_1); (try clear hfz9_0); (try clear hx231_0); (try clear p2); (try clear p231); (try clear q2); (try clear q231)
      obtain ⟨x1_2, x7_2, x233001_2, u233001, rfl, rfl, HA, HK2, HO_233001, BK228, BK229, BK232, HB⟩ := hrel
      cases gk with
      | zero => exact absurd HA.out (by simp [plinthref25_Prove.l0])
      | succ k2 =>
       have H := HA.out
       clear HA
       simp only [plinthref25_Prove.l0] at H
       by_cases c22 : x7_2 < (wrap64 ((l0_0.length : Int) - 1))
       ·rw [if_pos c22] at H
        have c22b0 : decide (x7_2 < (wrap64 ((l0_0.length : Int) - 1))) = true := decide_eq_true c22
        clear c22
        by_cases c23 : 0 ≤ x7_2
        ·rw [if_pos c23] at H
         have c23b0 : decide (0 ≤ x7_2) = true := decide_eq_true c23
         clear c23
         by_cases c24 : x7_2 < (l0_0.length : Int)
         ·rw [if_pos c24] at H
          have c24b0 : decide (x7_2 < (l0_0.length : Int)) = true := decide_eq_true c24
          clear c24
          replace H := Option.bind_eq_some_iff.mp H
          obtain ⟨t234, A250, H⟩ := H
          replace H : (if x233001_2.length < 5864062014805 then (plinthref25_Prove.l0 k2 (wrap64 (Int.tdiv x1_2 4)) (wrap64 (x7_2 + 1)) l0_0 a1 (x233001_2 ++ [t234])) else (none)) = some (r1, r2, r3) := H
          have A25 := Aside0.mk A250
          clear A250
          by_cases c26 : x233001_2.length < 5864062014805
          ·rw [if_pos c26] at H
           have LMc26 := Aside0.mk c26
           clear c26
           obtain ⟨y237, hy237⟩ : ∃ y_ : List (List Int), y_ = (x233001_2 ++ [t234]) := ⟨_, rfl⟩
           replace H : (plinthref25_Prove.l0 k2 (wrap64 (Int.tdiv x1_2 4)) (wrap64 (x7_2 + 1)) l0_0 a1 y237) = some (r1, r2, r3) := by first | (rw [hy237]; with_reducible exact H) | (have H2_ := (Option.bind_some _ _).symm.trans H; rw [hy237]; with_reducible exact H2_) | (have H2_ := (Option.bind_some _ _).symm.trans H; with_reducible exact H2_) | with_reducible exact H | (rw [hy237]; exact H) | exact H
           have Ny237 := Aside0.mk hy237
           clear hy237
           have H' := Aside0.mk H
           clear H
           have hnb27 := NB228_229.out
           have hnc27 := NB229_228.out
           have hnb28 := NB228_232.out
           have hnc28 := NB232_228.out
           obtain ⟨hcz29_0, hfz29_0⟩ := cells1 BK228.out
           try go_wp2
           replace HO_233001 := Aside0.mk (Kd.S_drew HO_233001.out)
           replace BK228 := Aside0.mk (blk_drew BK228.out)
           replace BK229 := Aside0.mk (blk_drew BK229.out)
           replace BK232 := Aside0.mk (blk_drew BK232.out)
           replace HB := Aside0.mk (below_drew1 HB.out)
           have p233 : 0 ≤ (x7_2 : Int) := of_decide_eq_true (by first | (with_reducible assumption) | assumption)
           have q233 : x7_2 < (l0_0.length : Int) := of_decide_eq_true (by first | (with_reducible assumption) | assumption)
           obtain ⟨ad233, A233_0, c233_0, e233, hx233_0, hl233_0, hi233_0⟩ := at_L1 HR0_0.out x7_2 p233 q233
           have hw233_0 := hx233_0
           cases e233
           replace hx233_0 := (HB.out.cell (World.block_lt_of_cell? w _ hx233_0)).trans hx233_0
           have HR233_0 := Aside0.mk hi233_0
           have HC233_0 := Aside0.mk hl233_0
           clear hi233_0 hl233_0
           replace p233 := eq_true p233
           replace q233 := eq_true q233
           refine start_ (n := 13) (S := fun w' => w'.cell? ⟨gb232, 0, none⟩ = some (.int .i64 a1) ∧ w'.cell? ⟨gb232, 1, none⟩ = some (u233001) ∧ w'.cell? ⟨gb228, 0, none⟩ = some (.slice (some ad233) l0_0.length c0_0) ∧ w'.cell? (ad233.add (x7_2).toNat) = some (.slice A233_0 (rd_L1 l0_0 x7_2).length c233_0)) (ds := [12]) (Array.replicate 13 false) (by kernel_rfl) rfl rfl ⟨(blk_cell BK232.out 0).trans rfl, (blk_cell BK232.out 1).trans rfl, (blk_cell BK228.out 0).trans rfl, ((HB.out.cell (World.block_lt_of_cell? w _ hw233_0)).trans hw233_0)⟩ (fun hHeld => ?_); refine with_tabW plinthref25_Prove.tab9 plinthref25_Prove.bits9 (fun HT_ HW_ => ?_)
           generalize wr.drew = w30 at HO_233001 BK228 BK229 BK232 HB HR233_0 hx233_0 hHeld ⊢
           refine pM 0 34 HT_.out ?_; refine pM 2 36 HT_.out ?_; refine pM 4 38 HT_.out ?_; refine pM 7 41 HT_.out ?_; refine tM 1 35 HT_.out HW_.out hHeld ?_; refine tM 3 37 HT_.out HW_.out hHeld ?_; refine pM 5 39 HT_.out ?_; refine tM 6 40 HT_.out HW_.out hHeld ?_
           refine oM 8 42 HT_.out (fun K hK => ?_)
           refine gM Try.func45 #[.slice A233_0 (rd_L1 l0_0 x7_2).length c233_0, .int .i64 x1_2] ?_
           with_reducible refine (plinthref25_row.calls _ _ (rd_L1 l0_0 x7_2) x1_2 t234 _ ?side1 ?side2 A25.out).mono ?_
           (case side1 => exact upC ((Kd.C_below HR233_0.out HB.out)))
           (case side2 => exact HC233_0.out)
           rintro e w31 ⟨v235, rfl, ho0, hb⟩
           refine ⟨_, rfl, ?_⟩
           replace HO_233001 := Aside0.mk (Kd.S_elder' (by (with_reducible repeat (first | apply Kd.S_alloc | apply Kd.S_drewN | apply Kd.S_drew)); exact HO_233001.out) (Kd.R_base ho0) hb)
           have HO236 := Aside0.mk (Kd.R_lower ho0 (below_size (upB3 HB.out GE228.out GE229.out GE232.out)))
           replace BK228 := Aside0.mk (blk_below (upK BK228.out) hb)
           replace BK229 := Aside0.mk (blk_below (upK BK229.out) hb)
           replace BK232 := Aside0.mk (blk_below (upK BK232.out) hb)
           replace HB := Aside0.mk (below_step (upB3 HB.out GE228.out GE229.out GE232.out) hb)
           (try clear hb); (try clear hb2); (try clear hk); (try clear hi); (try clear ho0)
           obtain ⟨Ao33, co33, eo33⟩ := Kd.R_slice HO236.out
           (first | subst eo33 | (injection eo33 with f1_ f2_ f3_; have f4_ := f1_.symm; have f5_ := f3_.symm; clear f1_ f2_ f3_; subst f4_; subst f5_))
           refine hK.out _ _ ⟨(blk_cell BK232.out 0).trans rfl, (blk_cell BK232.out 1).trans rfl, (blk_cell BK228.out 0).trans rfl, ((HB.out.cell (World.block_lt_of_cell? w _ hw233_0)).trans hw233_0)⟩ (fun hHeld => ?_)
           clear hK K
           refine nM 42 ?_
           refine oM 9 43 HT_.out (fun K hK => ?_)
           refine value_ (w1 := ?_) (v := ?_) (by rfl) rfl ?_ ?_
           rotate_left 2
           ·go_simp
            constructor
            ·rfl
            ·rfl
           refine hK.out _ _ ⟨(blk_cell (blk_alloc BK232.out _) 0).trans rfl, (blk_cell (blk_alloc BK232.out _) 1).trans rfl, (blk_cell (blk_alloc BK228.out _) 0).trans rfl, (World.cell?_alloc_lt _ _ _ (World.block_lt_of_cell? _ _ (((HB.out.cell (World.block_lt_of_cell? w _ hw233_0)).trans hw233_0)))).trans (((HB.out.cell (World.block_lt_of_cell? w _ hw233_0)).trans hw233_0))⟩ (fun hHeld => ?_)
           clear hK K
           refine nM 43 ?_
           refine oM 10 44 HT_.out (fun K hK => ?_)
           refine Kd.S_append_step (Kd.slice 25 (Kd.int .u32)) (w0 := w) w.heap.size (by rfl) (.tmp 35) (.tmp 43) 22 40 (.slice none 0 0) 24 rfl Try.underlying22 info40 rfl (by decide) (by omega) u233001 x233001_2 t234 [.slice Ao33 t234.length co33] (fun _ => True) (fun k_ => some k_ = (.slice Ao33 t234.length co33 : Value).ownBlock) rfl rfl ?aP (fun k_ hk_ => ((Kd.R_mono (ok' := fun k_ => ((fun _ => True)) k_ ∧ some k_ ≠ (u233001 : Value).ownBlock) (Kd.R_apart' (HO236.out) (Kd.S_typed HO_233001.out) (by decide)) (fun k_ hk => ⟨trivial, hk.2⟩))).1 k_ hk_.symm) ?aF ?aO ?aB ?aS ?aL ?_
           (case aP => exact Kd.M_row (Kd.R_mono (Kd.R_tight rfl (Kd.R_mono (ok' := fun k_ => ((fun _ => True)) k_ ∧ some k_ ≠ (u233001 : Value).ownBlock) (Kd.R_apart' (HO236.out) (Kd.S_typed HO_233001.out) (by decide)) (fun k_ hk => ⟨trivial, hk.2⟩))) (fun _ h_ => h_)))
           (case aB => exact (upB3 HB.out GE228.out GE229.out GE232.out))
           (case aF => exact (fun _ _ => trivial))
           (case aO => exact (by (with_reducible repeat (first | apply Kd.S_alloc | apply Kd.S_drewN | apply Kd.S_drew)); exact Kd.S_mono HO_233001.out (fun k_ hk => ⟨trivial, fun e_ => hk.2 e_⟩)))
           (case aS => exact (below_size (upB3 HB.out GE228.out GE229.out GE232.out)))
           (case aL => have := LMc26.out; omega)
           intro v238 w32 ho hb hg hat
           rw [← Ny237.out] at ho
           have n0_ := Aside0.mk (blk_grown (upK BK228.out) hg (Kd.S_ne HO_233001.out BK228.out (by decide)))
           have n1_ := Aside0.mk (blk_grown (upK BK229.out) hg (Kd.S_ne HO_233001.out BK229.out (by decide)))
           have n2_ := Aside0.mk (blk_grown (upK BK232.out) hg (Kd.S_ne HO_233001.out BK232.out (by decide)))
           have n3_ := Aside0.mk (hb)
           have n4_ := Aside0.mk (ho)
           clear BK228
           clear BK229
           clear BK232
           clear HB
           clear HO_233001
           clear HO236
           have BK228 := n0_
           have BK229 := n1_
           have BK232 := n2_
           have HB := n3_
           have HO239 := n4_
           clear n0_ n1_ n2_ n3_ n4_
           clear ho hb hg hat
           obtain ⟨Ao34, co34, eo34⟩ := Kd.S_slice HO239.out
           (first | subst eo34 | (injection eo34 with f1_ f2_ f3_; have f4_ := f1_.symm; have f5_ := f3_.symm; clear f1_ f2_ f3_; subst f4_; subst f5_))
           refine hK.out _ _ ⟨(blk_cell BK232.out 0).trans rfl, (blk_cell BK232.out 1).trans rfl, (blk_cell BK228.out 0).trans rfl, ((HB.out.cell (World.block_lt_of_cell? w _ hw233_0)).trans hw233_0)⟩ (fun hHeld => ?_)
           clear hK K
           refine nM 44 ?_; refine pM 11 45 HT_.out ?_
           refine last_ (i := 12) (N := none) #[true, true, true, true, true, true, true, true, true, true, true, true, true] rfl rfl (one_of HT_.out (by kernel_rfl)) (by decide) (fun K hK => ?_)
           have hs35 : w32.cell? ⟨gb232, 1, none⟩ = some (u233001) := (blk_cell BK232.out 1).trans rfl
           have hfs35 := blk_frozen BK232.out 1
           have hns35_0 := NB228_232.out
           have hns35_1 := NB229_232.out
           have hms35_0 := NB232_228.out
           have hms35_1 := NB232_229.out
           refine skip_ (w1 := ?_) (by rfl) rfl ?_ ?_
           rotate_left
           ·go_simp
            rfl
           refine hK.out _ _ ?_
           clear hK K
           refine done_ (done_of HT_.out (by kernel_rfl)) ?_
           try go_wp2
           go_roundg k2
           case measure => have := HJ4.out; have := HK2.out; omega
           case rel => exact ⟨(wrap64 (Int.tdiv x1_2 4)), (wrap64 (x7_2 + 1)), (y237), (.slice Ao34 y237.length co34), (by first | rfl | (simp; done) | (simp [*]; done)), (by first | rfl | (simp; done) | (simp [*]; done)), H', ⟨by have := HJ4.out; have := HK2.out; omega⟩, ⟨by (with_reducible repeat (first | apply Kd.S_alloc | apply Kd.S_drewN | apply Kd.S_drew)); exact Kd.S_mono (Kd.S_far (p := ⟨gb232, 1, none⟩) (Kd.S_types HO239.out BK232.out (by decide)) (fun _ hk => hk.2) (.slice Ao34 y237.length co34)) (fun _ hk => trivial)⟩, ⟨by refine upK ?_; refine blk_far ?_ NB228_232.out _; refine upK ?_; exact BK228.out⟩, ⟨by refine upK ?_; refine blk_far ?_ NB229_232.out _; refine upK ?_; exact BK229.out⟩, ⟨by refine upK ?_; refine blk_put (cs := #[.int .i64 a1, u233001]) ?_ 1 _ rfl; refine upK ?_; exact BK232.out⟩, ⟨upB3 HB.out GE228.out GE229.out GE232.out⟩⟩
          ·rw [if_neg c26] at H
           exact absurd H (by simp)
         ·rw [if_neg c24] at H
          exact absurd H (by simp)
        ·rw [if_neg c23] at H
         exact absurd H (by simp)
       ·rw [if_neg c22] at H
        have c22b0 : decide (x7_2 < (wrap64 ((l0_0.length : Int) - 1))) = false := decide_eq_false c22
        clear c22
        simp only [Option.some.injEq, Prod.mk.injEq] at H
        obtain ⟨rfl, rfl, rfl⟩ := H
        have hnb36 := NB228_229.out
        have hnc36 := NB229_228.out
        have hnb37 := NB228_232.out
        have hnc37 := NB232_228.out
        obtain ⟨hcz38_0, hfz38_0⟩ := cells1 BK228.out
        have hnb39 := NB232_229.out
        have hnc39 := NB229_232.out
        obtain ⟨hcz40_0, hcz40_1, hfz40_0, hfz40_1⟩ := cells2 BK232.out
        obtain ⟨hcz41_0, hcz41_1, hfz41_0, hfz41_1⟩ := cells2 BK229.out
        obtain ⟨Ao42, co42, eo42⟩ := Kd.S_slice HO_233001.out
        subst eo42
        go_wp2
        refine bodyPost_ret (results_ct rfl _ _ gb229 27 #[.int .i64 a1, .slice Ao42 x233001_2.length co42] (0, 0) _ rfl (by refine upK ?_; refine blk_put (cs := #[.int .i64 a1, .slice none 0 0]) ?_ 1 _ rfl; refine upK ?_; refine blk_put (cs := #[.int .i64 0, .slice none 0 0]) ?_ 0 _ rfl; refine upK ?_; exact BK229.out) Try.underlying27 rfl (by kernel_rfl)) rfl ?_
        exact ⟨_, by first | rfl | (simp [errW_none, errW_some] <;> rfl) | (simp [*, errW_none, errW_some] <;> rfl), by (with_reducible repeat (first | apply Kd.S_alloc | apply Kd.S_drewN | apply Kd.S_drew)); exact Kd.S_mono (Kd.S_far (p := ⟨gb229, 1, none⟩) (Kd.S_far (p := ⟨gb229, 0, none⟩) (Kd.S_types HO_233001.out BK229.out (by decide)) (fun _ hk => hk.2) (.int .i64 a1)) (fun _ hk => hk.2) (.slice Ao42 x233001_2.length co42)) (fun _ hk => trivial), upB3 HB.out GE228.out GE229.out GE232.out⟩
 ·rw [if_neg c4] at H
  have c4b0 : (t230 == 0) = false := beq_eq_false_iff_ne.mpr c4
  have c4b1 : (t230 != 0) = true := bne_iff_ne.mpr c4
  simp only [Option.some.injEq, Prod.mk.injEq] at H
  obtain ⟨rfl, rfl, rfl⟩ := H
  go_enter Try.func15, Try.ntmps15
  go_wp2_with (first | ((with_reducible refine gate_dst (N := 2) rfl ?_); (try (refine gate_guard (by rfl) ?_; dsimp only)); refine box_event ?hg (N := 2) ?hd (cs := #[.slice A0_0 l0_0.length c0_0]) (t := 24) ?hr ?_; (case hd => rfl); (case hg => rfl); (case hr => first | (go_simp; done) | (go_simp; rfl)); intro gb228 hg w43 hbox hb; have BK228 := Aside0.mk (hbox); have GW228 := Aside0.mk ((by rw [hg]; exact (below_size (upB0 HB.out)) : w.heap.size ≤ gb228)); have GE228 := Aside0.mk ((by rw [hg]; exact (below_size (upB0 HB.out)) : w.heap.size ≤ gb228)); replace HB := Aside0.mk (below_step (upB0 HB.out) hb); clear hb hbox hg) | ((with_reducible refine gate_dst (N := 4) rfl ?_); (try (refine gate_guard (by rfl) ?_; dsimp only)); refine box_event ?hg (N := 4) ?hd (cs := #[.int .i64 0, .slice none 0 0]) (t := 27) ?hr ?_; (case hd => rfl); (case hg => rfl); (case hr => first | (go_simp; done) | (go_simp; rfl)); intro gb229 hg w44 hbox hb; have BK229 := Aside0.mk (hbox); have GW229 := Aside0.mk ((by rw [hg]; exact (below_size (upB1 HB.out GE228.out)) : w.heap.size ≤ gb229)); have GE229 := Aside0.mk ((by rw [hg]; exact (below_size (upB1 HB.out GE228.out)) : w.heap.size ≤ gb229)); replace HB := Aside0.mk (below_step (upB1 HB.out GE228.out) hb); have NB228_229 := Aside0.mk ((by rw [hg]; exact Nat.ne_of_lt (blk_lt (upK BK228.out)) : gb228 ≠ gb229)); have NB229_228 := Aside0.mk ((by rw [hg]; exact Nat.ne_of_gt (blk_lt (upK BK228.out)) : gb229 ≠ gb228)); replace BK228 := Aside0.mk (blk_below (upK BK228.out) hb); clear hb hbox hg; have hnb45 := NB228_229.out; have hnc45 := NB229_228.out; obtain ⟨hcz46_0, hfz46_0⟩ := cells1 BK228.out) | ((with_reducible refine gate_callee (f := 33) rfl ?_); refine goesL_ (some 9) rfl rfl Try.func33 (by kernel_rfl) rfl #[.agg #[.slice A0_0 l0_0.length c0_0]] rfl argA ?_; (with_reducible refine (plinthref25_Check.calls k _ _ l0_0 t230 _ ?side1 ?side2 A3.out).mono ?_); (case side1 => exact upC ((Kd.C_below HR0_0.out HB.out))); (case side2 => exact HC0_0.out); rintro e w47 ⟨rfl, hb⟩; refine ⟨_, rfl, ?_⟩; replace BK228 := Aside0.mk (blk_below (upK BK228.out) hb); replace BK229 := Aside0.mk (blk_below (upK BK229.out) hb); replace HB := Aside0.mk (below_step (upB2 HB.out GE228.out GE229.out) hb); (try clear hb); (try clear hb2); (try clear hk); (try clear hi); obtain ⟨hcz48_0, hcz48_1, hfz48_0, hfz48_1⟩ := cells2 BK229.out))
  refine bodyPost_ret (results_ct rfl _ _ gb229 27 #[.int .i64 0, .slice none 0 0] (0, 0) _ rfl (by refine upK ?_; refine blk_put (cs := #[.int .i64 0, .slice none 0 0]) ?_ 1 _ rfl; refine upK ?_; refine blk_put (cs := #[.int .i64 0, .slice none 0 0]) ?_ 0 _ rfl; refine upK ?_; exact BK229.out) Try.underlying27 rfl (by kernel_rfl)) rfl ?_
  exact ⟨_, by first | rfl | (simp [errW_none, errW_some] <;> rfl) | (simp [*, errW_none, errW_some] <;> rfl), by first | exact Kd.S_nil _ _ _ _ _ | exact Kd.N_nil _ _ _ _ _ | exact Kd.V_nil _ _ _ _ _ | exact Kd.Q_nil _ _ _ _ _ | exact Kd.R_nil _ _ _ _ _, upB2 HB.out GE228.out GE229.out⟩

end Go.Proofs.Ytbmmddngadnofaa.F
