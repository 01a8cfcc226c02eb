-- Written by ext (this session's own program).
-- in short rows (short.py)
import Derived.Test.YtbmmddngadnofaaFx0
import Derived.Test.YtbmmddngadnofaaFx1
import Derived.Test.YtbmmddngadnofaaFx10
import Derived.Test.YtbmmddngadnofaaFx11
import Derived.Test.YtbmmddngadnofaaFx18
import Derived.Test.YtbmmddngadnofaaFx19
import Derived.Test.YtbmmddngadnofaaFx24
import Derived.Test.YtbmmddngadnofaaFx30
import Derived.Test.YtbmmddngadnofaaFx32
import Derived.Test.YtbmmddngadnofaaFx33
import Derived.Test.YtbmmddngadnofaaFx34
namespace Go.Proofs.Ytbmmddngadnofaa.F
open Go.RowKit Go.Proofs.YtbmmddngadnofaaW.PrintWords Go.Proofs.YtbmmddngadnofaaW.PrintLast Go.Proofs.YtbmmddngadnofaaW.PrintMore
attribute [local go_sem] max2_int min2_int max_two min_two max_three min_three max_four min_four   -- for this text's walks alone
set_option linter.unusedVariables false
set_option linter.unusedSimpArgs false

/-! ### plinthlaw25_TreeAsks: function 6 -/
def plinthlaw25_TreeAsks.f (k : Nat) (l0_0 : List (List Int)) (l1_0 : List (List Int)) (a2 : Int) (a3 : Int) : Option (Bool) := (plinthlaw25_cut.f k l0_0).bind fun t424 => ((plinthlaw25_cut.f k l1_0).bind fun t427 => ((tree_Root.f k t424).bind fun bt430 => ((plinthref25_Root.f k t424).bind fun bt432 => ((tree_Put.f k t424 a2 a3).bind fun bt434 => ((plinthref25_Put.f k t424 a2 a3).bind fun bt439 => ((tree_Check.f k t424).bind fun t444 => ((plinthref25_Check.f k t424).bind fun t445 => (if t444 = t445 then (if bt430.1 = bt432.1 then (if bt430.2 = bt432.2 then ((plinthref25_Same.f k bt434.1 bt439.1).bind fun t446 => (if t446 = true then (if bt434.2 = bt439.2 then ((tree_Same.f k t424 t427).bind fun t447 => ((plinthref25_Same.f k t424 t427).bind fun t448 => (if (t447 == t448) = true then ((tree_Same.f k t424 t424).bind fun t449 => (if t449 = true then ((plinthlaw25_awake.f k).bind fun t450 => (some t450)) else (some false))) else (some false)))) else (some false)) else (some false))) else (some false)) else (some false)) else (some false)))))))))
theorem plinthlaw25_TreeAsks.mono : ∀ a0 a1 a2 a3 k, LeO (plinthlaw25_TreeAsks.f k a0 a1 a2 a3) (plinthlaw25_TreeAsks.f (k + 1) a0 a1 a2 a3) := by
 intro a0 a1 a2 a3 k
 unfold plinthlaw25_TreeAsks.f
 repeat' first
   | (with_reducible exact plinthlaw25_awake.mono _)
   | (with_reducible exact plinthlaw25_cut.mono _ _)
   | (with_reducible exact plinthref25_Check.mono _ _)
   | (with_reducible exact plinthref25_Put.mono _ _ _ _)
   | (with_reducible exact plinthref25_Root.mono _ _)
   | (with_reducible exact plinthref25_Same.mono _ _ _)
   | (with_reducible exact tree_Check.mono _ _)
   | (with_reducible exact tree_Put.mono _ _ _ _)
   | (with_reducible exact tree_Root.mono _ _)
   | (with_reducible exact tree_Same.mono _ _ _)
   | (with_reducible exact LeO.refl _)
   | (with_reducible exact LeO.none _)
   | (with_reducible refine LeO.ite ?_ ?_)
   | (with_reducible refine LeO.bind ?_ (fun _ => ?_))
   | exact plinthlaw25_awake.mono _
   | exact plinthlaw25_cut.mono _ _
   | exact plinthref25_Check.mono _ _
   | exact plinthref25_Put.mono _ _ _ _
   | exact plinthref25_Root.mono _ _
   | exact plinthref25_Same.mono _ _ _
   | exact tree_Check.mono _ _
   | exact tree_Put.mono _ _ _ _
   | exact tree_Root.mono _ _
   | exact tree_Same.mono _ _ _
   | exact LeO.none _
   | refine LeO.ite ?_ ?_
   | refine LeO.bind ?_ (fun _ => ?_)
def plinthlaw25_TreeAsks.T6 : Bool × List (List Nat × List Nat) := (true, [([], []), ([0], [0]), ([], []), ([2, 1], [2]), ([1, 3], [1, 3]), ([4, 3], [4]), ([5], [5]), ([5], [5]), ([6, 7, 5], [5, 6, 7]), ([5, 8], [5, 8]), ([9, 5], [9]), ([10], [10]), ([10], [10]), ([11, 12, 10], [10, 11, 12]), ([10, 13], [10, 13]), ([14, 10], [14]), ([15], [15]), ([15], [15]), ([16, 17, 15, 15], [15, 16, 17]), ([15, 18], [15, 18]), ([19, 18], [19]), ([20], [20]), ([20], [20]), ([21, 22, 20], [20, 21, 22]), ([20, 23], [20, 23]), ([24, 20], [24]), ([25], [25]), ([25], [25]), ([26, 27, 25, 25], [25, 26, 27]), ([25], [25]), ([25], [25]), ([29, 30, 28, 25], [25, 29, 30]), ([28, 31, 25], [25, 28, 31]), ([25, 32], [25, 32]), ([33, 31], [33]), ([34], [34]), ([34], [34]), ([35, 36, 34, 34], [34, 35, 36]), ([34, 37], [34, 37]), ([38, 37], [38]), ([39, 39], [39]), ([39, 40], [39, 40]), ([41, 40, 0, 1, 2, 3, 4, 5, 6, 7, 8, 9, 10, 11, 12, 13, 14, 15, 16, 17, 18, 19, 20, 21, 22, 23, 24, 25, 26, 27, 28, 29, 30, 31, 32, 33, 34, 35, 36, 37, 38, 39, 40, 41], [41])])
def plinthlaw25_TreeAsks.B6 : List Nat := [0, 1, 0, 7, 15, 31, 63, 63, 255, 511, 1023, 2047, 2047, 8191, 16383, 32767, 65535, 65535, 262143, 524287, 1048575, 2097151, 2097151, 8388607, 16777215, 33554431, 67108863, 67108863, 268435455, 67108863, 67108863, 2147483647, 4294967295, 8589934591, 17179869183, 34359738367, 34359738367, 137438953471, 274877906943, 549755813887, 1099511627775, 2199023255551, 4398046511103]
theorem plinthlaw25_TreeAsks.tab6 : rtab .any (opsOf Try.f6 6) = plinthlaw25_TreeAsks.T6 := by kernel_rfl
theorem plinthlaw25_TreeAsks.bits6 : waitsOk plinthlaw25_TreeAsks.T6.2 plinthlaw25_TreeAsks.B6 = true := by kernel_rfl
set_option maxHeartbeats 8000000 in
set_option maxRecDepth 100000 in
theorem plinthlaw25_TreeAsks.calls (k : Nat) (A0_0 : Option Addr) (c0_0 : Nat) (l0_0 : List (List Int)) (A1_0 : Option Addr) (c1_0 : Nat) (l1_0 : List (List Int)) (a2 : Int) (a3 : Int) (r : Bool) (w : World) (hr0_0 : Kd.C (Kd.slice 25 (Kd.int .u32)) w A0_0 l0_0.length l0_0) (hc0_0 : l0_0.length ≤ c0_0) (hr1_0 : Kd.C (Kd.slice 25 (Kd.int .u32)) w A1_0 l1_0.length l1_0) (hc1_0 : l1_0.length ≤ c1_0) (hr_ : Aside0 (r = true)) (h : plinthlaw25_TreeAsks.f k l0_0 l1_0 a2 a3 = some r) :
  Calls Try.prog 6 #[.agg #[.slice A0_0 l0_0.length c0_0], .agg #[.slice A1_0 l1_0.length c1_0], .int .i64 a2, .int .u32 a3] w fun e w' => e = .returned (.bool r) ∧ Below w.heap.size w w' := by
 have hu24 := Try.underlying24
 have HR0_0 := Aside0.mk hr0_0
 have HC0_0 := Aside0.mk hc0_0
 clear hr0_0 hc0_0
 have HR1_0 := Aside0.mk hr1_0
 have HC1_0 := Aside0.mk hc1_0
 clear hr1_0 hc1_0
 have HB := Aside0.mk (Below.refl w.heap.size w)
 have H : ((plinthlaw25_cut.f k l0_0).bind fun t424 => ((plinthlaw25_cut.f k l1_0).bind fun t427 => ((tree_Root.f k t424).bind fun bt430 => ((plinthref25_Root.f k t424).bind fun bt432 => ((tree_Put.f k t424 a2 a3).bind fun bt434 => ((plinthref25_Put.f k t424 a2 a3).bind fun bt439 => ((tree_Check.f k t424).bind fun t444 => ((plinthref25_Check.f k t424).bind fun t445 => (if t444 = t445 then (if bt430.1 = bt432.1 then (if bt430.2 = bt432.2 then ((plinthref25_Same.f k bt434.1 bt439.1).bind fun t446 => (if t446 = true then (if bt434.2 = bt439.2 then ((tree_Same.f k t424 t427).bind fun t447 => ((plinthref25_Same.f k t424 t427).bind fun t448 => (if (t447 == t448) = true then ((tree_Same.f k t424 t424).bind fun t449 => (if t449 = true then ((plinthlaw25_awake.f k).bind fun t450 => (some t450)) else (some false))) else (some false)))) else (some false)) else (some false))) else (some false)) else (some false)) else (some false)))))))))) = some r := h
 clear h
 replace H := Option.bind_eq_some_iff.mp H
 obtain ⟨t424, A50, H⟩ := H
 replace H : ((plinthlaw25_cut.f k l1_0).bind fun t427 => ((tree_Root.f k t424).bind fun bt430 => ((plinthref25_Root.f k t424).bind fun bt432 => ((tree_Put.f k t424 a2 a3).bind fun bt434 => ((plinthref25_Put.f k t424 a2 a3).bind fun bt439 => ((tree_Check.f k t424).bind fun t444 => ((plinthref25_Check.f k t424).bind fun t445 => (if t444 = t445 then (if bt430.1 = bt432.1 then (if bt430.2 = bt432.2 then ((plinthref25_Same.f k bt434.1 bt439.1).bind fun t446 => (if t446 = true then (if bt434.2 = bt439.2 then ((tree_Same.f k t424 t427).bind fun t447 => ((plinthref25_Same.f k t424 t427).bind fun t448 => (if (t447 == t448) = true then ((tree_Same.f k t424 t424).bind fun t449 => (if t449 = true then ((plinthlaw25_awake.f k).bind fun t450 => (some t450)) else (some false))) else (some false)))) else (some false)) else (some false))) else (some false)) else (some false)) else (some false))))))))) = some r := H
 have A5 := Aside0.mk A50
 clear A50
 replace H := Option.bind_eq_some_iff.mp H
 obtain ⟨t427, A60, H⟩ := H
 replace H : ((tree_Root.f k t424).bind fun bt430 => ((plinthref25_Root.f k t424).bind fun bt432 => ((tree_Put.f k t424 a2 a3).bind fun bt434 => ((plinthref25_Put.f k t424 a2 a3).bind fun bt439 => ((tree_Check.f k t424).bind fun t444 => ((plinthref25_Check.f k t424).bind fun t445 => (if t444 = t445 then (if bt430.1 = bt432.1 then (if bt430.2 = bt432.2 then ((plinthref25_Same.f k bt434.1 bt439.1).bind fun t446 => (if t446 = true then (if bt434.2 = bt439.2 then ((tree_Same.f k t424 t427).bind fun t447 => ((plinthref25_Same.f k t424 t427).bind fun t448 => (if (t447 == t448) = true then ((tree_Same.f k t424 t424).bind fun t449 => (if t449 = true then ((plinthlaw25_awake.f k).bind fun t450 => (some t450)) else (some false))) else (some false)))) else (some false)) else (some false))) else (some false)) else (some false)) else (some false)))))))) = some r := H
 have A6 := Aside0.mk A60
 clear A60
 replace H := Option.bind_eq_some_iff.mp H
 obtain ⟨⟨t430, t431⟩, A70, H⟩ := H
 replace H : ((plinthref25_Root.f k t424).bind fun bt432 => ((tree_Put.f k t424 a2 a3).bind fun bt434 => ((plinthref25_Put.f k t424 a2 a3).bind fun bt439 => ((tree_Check.f k t424).bind fun t444 => ((plinthref25_Check.f k t424).bind fun t445 => (if t444 = t445 then (if t430 = bt432.1 then (if t431 = bt432.2 then ((plinthref25_Same.f k bt434.1 bt439.1).bind fun t446 => (if t446 = true then (if bt434.2 = bt439.2 then ((tree_Same.f k t424 t427).bind fun t447 => ((plinthref25_Same.f k t424 t427).bind fun t448 => (if (t447 == t448) = true then ((tree_Same.f k t424 t424).bind fun t449 => (if t449 = true then ((plinthlaw25_awake.f k).bind fun t450 => (some t450)) else (some false))) else (some false)))) else (some false)) else (some false))) else (some false)) else (some false)) else (some false))))))) = some r := H
 have A7 := Aside0.mk A70
 clear A70
 replace H := Option.bind_eq_some_iff.mp H
 obtain ⟨⟨t432, t433⟩, A80, H⟩ := H
 replace H : ((tree_Put.f k t424 a2 a3).bind fun bt434 => ((plinthref25_Put.f k t424 a2 a3).bind fun bt439 => ((tree_Check.f k t424).bind fun t444 => ((plinthref25_Check.f k t424).bind fun t445 => (if t444 = t445 then (if t430 = t432 then (if t431 = t433 then ((plinthref25_Same.f k bt434.1 bt439.1).bind fun t446 => (if t446 = true then (if bt434.2 = bt439.2 then ((tree_Same.f k t424 t427).bind fun t447 => ((plinthref25_Same.f k t424 t427).bind fun t448 => (if (t447 == t448) = true then ((tree_Same.f k t424 t424).bind fun t449 => (if t449 = true then ((plinthlaw25_awake.f k).bind fun t450 => (some t450)) else (some false))) else (some false)))) else (some false)) else (some false))) else (some false)) else (some false)) else (some false)))))) = some r := H
 have A8 := Aside0.mk A80
 clear A80
 replace H := Option.bind_eq_some_iff.mp H
 obtain ⟨⟨t434, t437⟩, A90, H⟩ := H
 replace H : ((plinthref25_Put.f k t424 a2 a3).bind fun bt439 => ((tree_Check.f k t424).bind fun t444 => ((plinthref25_Check.f k t424).bind fun t445 => (if t444 = t445 then (if t430 = t432 then (if t431 = t433 then ((plinthref25_Same.f k t434 bt439.1).bind fun t446 => (if t446 = true then (if t437 = bt439.2 then ((tree_Same.f k t424 t427).bind fun t447 => ((plinthref25_Same.f k t424 t427).bind fun t448 => (if (t447 == t448) = true then ((tree_Same.f k t424 t424).bind fun t449 => (if t449 = true then ((plinthlaw25_awake.f k).bind fun t450 => (some t450)) else (some false))) else (some false)))) else (some false)) else (some false))) else (some false)) else (some false)) else (some false))))) = some r := H
 have A9 := Aside0.mk A90
 clear A90
 replace H := Option.bind_eq_some_iff.mp H
 obtain ⟨⟨t439, t442⟩, A100, H⟩ := H
 replace H : ((tree_Check.f k t424).bind fun t444 => ((plinthref25_Check.f k t424).bind fun t445 => (if t444 = t445 then (if t430 = t432 then (if t431 = t433 then ((plinthref25_Same.f k t434 t439).bind fun t446 => (if t446 = true then (if t437 = t442 then ((tree_Same.f k t424 t427).bind fun t447 => ((plinthref25_Same.f k t424 t427).bind fun t448 => (if (t447 == t448) = true then ((tree_Same.f k t424 t424).bind fun t449 => (if t449 = true then ((plinthlaw25_awake.f k).bind fun t450 => (some t450)) else (some false))) else (some false)))) else (some false)) else (some false))) else (some false)) else (some false)) else (some false)))) = some r := H
 have A10 := Aside0.mk A100
 clear A100
 replace H := Option.bind_eq_some_iff.mp H
 obtain ⟨t444, A110, H⟩ := H
 replace H : ((plinthref25_Check.f k t424).bind fun t445 => (if t444 = t445 then (if t430 = t432 then (if t431 = t433 then ((plinthref25_Same.f k t434 t439).bind fun t446 => (if t446 = true then (if t437 = t442 then ((tree_Same.f k t424 t427).bind fun t447 => ((plinthref25_Same.f k t424 t427).bind fun t448 => (if (t447 == t448) = true then ((tree_Same.f k t424 t424).bind fun t449 => (if t449 = true then ((plinthlaw25_awake.f k).bind fun t450 => (some t450)) else (some false))) else (some false)))) else (some false)) else (some false))) else (some false)) else (some false)) else (some false))) = some r := H
 have A11 := Aside0.mk A110
 clear A110
 replace H := Option.bind_eq_some_iff.mp H
 obtain ⟨t445, A120, H⟩ := H
 replace H : (if t444 = t445 then (if t430 = t432 then (if t431 = t433 then ((plinthref25_Same.f k t434 t439).bind fun t446 => (if t446 = true then (if t437 = t442 then ((tree_Same.f k t424 t427).bind fun t447 => ((plinthref25_Same.f k t424 t427).bind fun t448 => (if (t447 == t448) = true then ((tree_Same.f k t424 t424).bind fun t449 => (if t449 = true then ((plinthlaw25_awake.f k).bind fun t450 => (some t450)) else (some false))) else (some false)))) else (some false)) else (some false))) else (some false)) else (some false)) else (some false)) = some r := H
 have A12 := Aside0.mk A120
 clear A120
 by_cases c13 : t444 = t445
 ·rw [if_pos c13] at H
  have c13b0 : (t444 == t445) = true := beq_iff_eq.mpr c13
  have c13b1 : (t444 != t445) = false := bne_eq_false_iff_eq.mpr c13
  clear c13
  by_cases c14 : t430 = t432
  ·rw [if_pos c14] at H
   have c14b0 : (t430 == t432) = true := beq_iff_eq.mpr c14
   have c14b1 : (t430 != t432) = false := bne_eq_false_iff_eq.mpr c14
   clear c14
   by_cases c15 : t431 = t433
   ·rw [if_pos c15] at H
    have c15b0 : (t431 == t433) = true := beq_iff_eq.mpr c15
    have c15b1 : (t431 != t433) = false := bne_eq_false_iff_eq.mpr c15
    clear c15
    replace H := Option.bind_eq_some_iff.mp H
    obtain ⟨t446, A160, H⟩ := H
    replace H : (if t446 = true then (if t437 = t442 then ((tree_Same.f k t424 t427).bind fun t447 => ((plinthref25_Same.f k t424 t427).bind fun t448 => (if (t447 == t448) = true then ((tree_Same.f k t424 t424).bind fun t449 => (if t449 = true then ((plinthlaw25_awake.f k).bind fun t450 => (some t450)) else (some false))) else (some false)))) else (some false)) else (some false)) = some r := H
    have A16 := Aside0.mk A160
    clear A160
    by_cases c17 : t446 = true
    ·subst c17
     have H1 : (if t437 = t442 then ((tree_Same.f k t424 t427).bind fun t447 => ((plinthref25_Same.f k t424 t427).bind fun t448 => (if (t447 == t448) = true then ((tree_Same.f k t424 t424).bind fun t449 => (if t449 = true then ((plinthlaw25_awake.f k).bind fun t450 => (some t450)) else (some false))) else (some false)))) else (some false)) = some r := by rw [if_pos rfl] at H; exact H
     clear H
     have H := H1
     clear H1
     by_cases c18 : t437 = t442
     ·rw [if_pos c18] at H
      have c18b0 : (t437 == t442) = true := beq_iff_eq.mpr c18
      have c18b1 : (t437 != t442) = false := bne_eq_false_iff_eq.mpr c18
      clear c18
      replace H := Option.bind_eq_some_iff.mp H
      obtain ⟨t447, A190, H⟩ := H
      replace H : ((plinthref25_Same.f k t424 t427).bind fun t448 => (if (t447 == t448) = true then ((tree_Same.f k t424 t424).bind fun t449 => (if t449 = true then ((plinthlaw25_awake.f k).bind fun t450 => (some t450)) else (some false))) else (some false))) = some r := H
      have A19 := Aside0.mk A190
      clear A190
      replace H := Option.bind_eq_some_iff.mp H
      obtain ⟨t448, A200, H⟩ := H
      replace H : (if (t447 == t448) = true then ((tree_Same.f k t424 t424).bind fun t449 => (if t449 = true then ((plinthlaw25_awake.f k).bind fun t450 => (some t450)) else (some false))) else (some false)) = some r := H
      have A20 := Aside0.mk A200
      clear A200
      by_cases c21 : (t447 == t448) = true
      ·rw [if_pos c21] at H
       have c21b0 : (t447 == t448) = true := c21
       (try (have c21b1 : decide (t447 = t448) = true := by simpa using c21))
       (try (have c21b2 : (t447 == t448) = true := by simpa using c21))
       clear c21
       replace H := Option.bind_eq_some_iff.mp H
       obtain ⟨t449, A220, H⟩ := H
       replace H : (if t449 = true then ((plinthlaw25_awake.f k).bind fun t450 => (some t450)) else (some false)) = some r := H
       have A22 := Aside0.mk A220
       clear A220
       by_cases c23 : t449 = true
       ·subst c23
        have H1 : ((plinthlaw25_awake.f k).bind fun t450 => (some t450)) = some r := by rw [if_pos rfl] at H; exact H
        clear H
        have H := H1
        clear H1
        replace H := Option.bind_eq_some_iff.mp H
        obtain ⟨t450, A240, H⟩ := H
        replace H : (some t450) = some r := H
        have A24 := Aside0.mk A240
        clear A240
        obtain rfl := Option.some.inj H
        go_enter Try.func6, Try.ntmps6
        try go_wp2_with (first | ((with_reducible refine gate_dst (N := 4) rfl ?_); refine box_event ?hg (N := 4) ?hd (cs := #[.slice A0_0 l0_0.length c0_0]) (t := 24) ?hr ?_; (case hd => rfl); (case hg => rfl); (case hr => first | (go_simp; done) | (go_simp; rfl)); intro gb422 hg w25 hbox hb; have BK422 := Aside0.mk (hbox); have GW422 := Aside0.mk ((by rw [hg]; exact (below_size (upB0 HB.out)) : w.heap.size ≤ gb422)); have GE422 := Aside0.mk ((by rw [hg]; exact (below_size (upB0 HB.out)) : w.heap.size ≤ gb422)); replace HB := Aside0.mk (below_step (upB0 HB.out) hb); clear hb hbox hg) | ((with_reducible refine gate_dst (N := 5) rfl ?_); refine box_event ?hg (N := 5) ?hd (cs := #[.slice A1_0 l1_0.length c1_0]) (t := 24) ?hr ?_; (case hd => rfl); (case hg => rfl); (case hr => first | (go_simp; done) | (go_simp; rfl)); intro gb423 hg w26 hbox hb; have BK423 := Aside0.mk (hbox); have GW423 := Aside0.mk ((by rw [hg]; exact (below_size (upB1 HB.out GE422.out)) : w.heap.size ≤ gb423)); have GE423 := Aside0.mk ((by rw [hg]; exact (below_size (upB1 HB.out GE422.out)) : w.heap.size ≤ gb423)); replace HB := Aside0.mk (below_step (upB1 HB.out GE422.out) hb); have NB422_423 := Aside0.mk ((by rw [hg]; exact Nat.ne_of_lt (blk_lt (upK BK422.out)) : gb422 ≠ gb423)); have NB423_422 := Aside0.mk ((by rw [hg]; exact Nat.ne_of_gt (blk_lt (upK BK422.out)) : gb423 ≠ gb422)); replace BK422 := Aside0.mk (blk_below (upK BK422.out) hb); clear hb hbox hg))
        replace BK422 := Aside0.mk (blk_drew BK422.out)
        replace BK423 := Aside0.mk (blk_drew BK423.out)
        replace HB := Aside0.mk (below_drew1 HB.out)
        refine start_ (n := 6) (S := fun w' => w'.cell? ⟨gb422, 0, none⟩ = some (.slice A0_0 l0_0.length c0_0) ∧ w'.cell? ⟨gb423, 0, none⟩ = some (.slice A1_0 l1_0.length c1_0)) (ds := [4, 5]) (Array.replicate 6 false) (by kernel_rfl) rfl rfl ⟨(blk_cell BK422.out 0).trans rfl, (blk_cell BK423.out 0).trans rfl⟩ (fun hHeld => ?_)
        generalize w26.drew = w27 at BK422 BK423 HB hHeld ⊢
        refine take_ (i := 0) (N := some 17) (v := ?_) (a' := ?_) #[true, false, false, false, false, false] rfl rfl (by kernel_rfl) (fun _ _ _ h => h) (Or.inl ⟨by rfl, ?_⟩) hHeld ?_ ?_
        rotate_left
        ·rintro w' ⟨s0, s1⟩
         go_simp
         with_reducible rfl
        rotate_left
        ·simp only [Act.put, List.setIfInBounds_toArray, List.set_cons_zero, List.set_cons_succ, i64_w, i32_w]
         rfl
        refine take_ (i := 2) (N := some 19) (v := ?_) (a' := ?_) #[true, false, true, false, false, false] rfl rfl (by kernel_rfl) (fun _ _ _ h => h) (Or.inl ⟨by rfl, ?_⟩) hHeld ?_ ?_
        rotate_left
        ·rintro w' ⟨s0, s1⟩
         go_simp
         with_reducible rfl
        rotate_left
        ·simp only [Act.put, List.setIfInBounds_toArray, List.set_cons_zero, List.set_cons_succ, i64_w, i32_w]
         rfl
        refine one_ (i := 1) (N := some 18) #[true, true, true, false, false, false] rfl rfl (by kernel_rfl) (by decide) (fun K hK => ?_)
        refine gM Try.func12 #[.agg #[.slice A0_0 l0_0.length c0_0]] ?_
        with_reducible refine (plinthlaw25_cut.calls k (fun k_ => k_ < w.heap.size) _ _ l0_0 t424 _ ?side1 A5.out).mono ?_
        (case side1 => exact Kd.V_mk HC0_0.out (Kd.F_below (Kd.C_F (Kd.heap_slice 25 (Kd.heap_int .u32)) HR0_0.out) (upB2 HB.out GE422.out GE423.out)))
        rintro e w28 ⟨v425, rfl, ho0, hb⟩
        refine ⟨_, rfl, ?_⟩
        have HO426 := Aside0.mk (Kd.V_lower (Kd.V_mono (ok' := fun k_ => k_ ≠ gb422 ∧ k_ ≠ gb423) ho0 (fun k_ hk_ => ⟨Or.elim hk_ (fun hs_ => fun e_ => Nat.not_le.2 hs_ (by rw [e_]; exact GW422.out)) (fun hn_ => (Kd.freshB (upK BK422.out) k_ hn_)), Or.elim hk_ (fun hs_ => fun e_ => Nat.not_le.2 hs_ (by rw [e_]; exact GW423.out)) (fun hn_ => (Kd.freshB (upK BK423.out) k_ hn_))⟩)) (below_size (upB2 HB.out GE422.out GE423.out)))
        replace BK422 := Aside0.mk (blk_below (upK BK422.out) hb)
        replace BK423 := Aside0.mk (blk_below (upK BK423.out) hb)
        replace HB := Aside0.mk (below_step (upB2 HB.out GE422.out GE423.out) hb)
        (try clear hb); (try clear hb2); (try clear hk); (try clear hi); (try clear ho0)
        refine hK.out _ _ ⟨(blk_cell BK422.out 0).trans rfl, (blk_cell BK423.out 0).trans rfl⟩ (fun hHeld => ?_)
        clear hK K
        refine nM 18 ?_
        refine one_ (i := 3) (N := some 20) #[true, true, true, true, false, false] rfl rfl (by kernel_rfl) (by decide) (fun K hK => ?_)
        refine gM Try.func12 #[.agg #[.slice A1_0 l1_0.length c1_0]] ?_
        with_reducible refine (plinthlaw25_cut.calls k (fun k_ => k_ < w.heap.size) _ _ l1_0 t427 _ ?side1 A6.out).mono ?_
        (case side1 => exact Kd.V_mk HC1_0.out (Kd.F_below (Kd.C_F (Kd.heap_slice 25 (Kd.heap_int .u32)) HR1_0.out) (upB2 HB.out GE422.out GE423.out)))
        rintro e w29 ⟨v428, rfl, ho0, hb⟩
        refine ⟨_, rfl, ?_⟩
        replace HO426 := Aside0.mk (Kd.V_below (upV HO426.out) hb)
        have HO429 := Aside0.mk (Kd.V_lower (Kd.V_mono (ok' := fun k_ => k_ ≠ gb422 ∧ k_ ≠ gb423) ho0 (fun k_ hk_ => ⟨Or.elim hk_ (fun hs_ => fun e_ => Nat.not_le.2 hs_ (by rw [e_]; exact GW422.out)) (fun hn_ => (Kd.freshB (upK BK422.out) k_ hn_)), Or.elim hk_ (fun hs_ => fun e_ => Nat.not_le.2 hs_ (by rw [e_]; exact GW423.out)) (fun hn_ => (Kd.freshB (upK BK423.out) k_ hn_))⟩)) (below_size (upB2 HB.out GE422.out GE423.out)))
        replace BK422 := Aside0.mk (blk_below (upK BK422.out) hb)
        replace BK423 := Aside0.mk (blk_below (upK BK423.out) hb)
        replace HB := Aside0.mk (below_step (upB2 HB.out GE422.out GE423.out) hb)
        (try clear hb); (try clear hb2); (try clear hk); (try clear hi); (try clear ho0)
        obtain ⟨Ao30, co30, eo30⟩ := Kd.V_slice HO426.out
        (first | subst eo30 | (injection eo30 with f1_ f2_ f3_; have f4_ := f1_.symm; have f5_ := f3_.symm; clear f1_ f2_ f3_; subst f4_; subst f5_))
        obtain ⟨Ao32, co32, eo32⟩ := Kd.V_slice HO429.out
        (first | subst eo32 | (injection eo32 with f1_ f2_ f3_; have f4_ := f1_.symm; have f5_ := f3_.symm; clear f1_ f2_ f3_; subst f4_; subst f5_))
        refine hK.out _ _ ⟨(blk_cell BK422.out 0).trans rfl, (blk_cell BK423.out 0).trans rfl⟩ (fun hHeld => ?_)
        clear hK K
        refine nM 20 ?_
        refine last_ (i := 4) (N := none) #[true, true, true, true, true, false] rfl rfl (by kernel_rfl) (by decide) (fun K hK => ?_)
        have hs31 : w29.cell? ⟨gb422, 0, none⟩ = some (.slice A0_0 l0_0.length c0_0) := (blk_cell BK422.out 0).trans rfl
        have hfs31 := blk_frozen BK422.out 0
        have hns31_1 := NB423_422.out
        have hms31_1 := NB422_423.out
        refine skip_ (w1 := ?_) (by rfl) rfl ?_ ?_
        rotate_left
        ·go_simp
         rfl
        refine hK.out _ _ ?_
        clear hK K
        refine last_ (i := 5) (N := none) #[true, true, true, true, true, true] rfl rfl (by kernel_rfl) (by decide) (fun K hK => ?_)
        have hs33 : w29.cell? ⟨gb423, 0, none⟩ = some (.slice A1_0 l1_0.length c1_0) := (blk_cell BK423.out 0).trans rfl
        have hfs33 := blk_frozen BK423.out 0
        have hns33_0 := NB422_423.out
        have hms33_0 := NB423_422.out
        refine skip_ (w1 := ?_) (by rfl) rfl ?_ ?_
        rotate_left
        ·go_simp
         rfl
        refine hK.out _ _ ?_
        clear hK K
        refine done_ (by kernel_rfl) ?_
        have hnb34 := NB422_423.out
        have hnc34 := NB423_422.out
        obtain ⟨hcz35_0, hfz35_0⟩ := cells1 BK422.out
        try go_wp2_with (first | ((with_reducible refine gate_callee (f := 28) rfl ?_); refine goesL_ (some 23) rfl rfl Try.func28 (by kernel_rfl) rfl #[.agg #[.slice Ao30 t424.length co30]] rfl argA ?_; (with_reducible refine (tree_Root.calls k _ _ t424 t430 t431 _ ?side1 ?side2 A7.out).mono ?_); (case side1 => refine (Kd.V_reads' (e := 40) (base := w.heap.size) (ok := fun k_ => (k_ ≠ gb422 ∧ k_ ≠ gb423)) (n := t424.length) (c := co30) ?_).2.2; exact (by refine upV ?_; exact (Kd.V_mono (farV1 (g := gb423) (Kd.V_far (p := ⟨gb422, 0, none⟩) (Kd.V_mono (Kd.V_mono HO426.out (fun k_ hk => (⟨hk, hk.1⟩ : _ ∧ k_ ≠ gb422))) (fun k_ hk => (⟨hk, hk.1.2⟩ : _ ∧ k_ ≠ gb423))) (fun _ hk => hk.1.2) (.slice Ao30 t424.length co30)) 0 (.slice Ao32 t427.length co32)) (fun _ h_ => h_.1)))); (case side2 => exact (Kd.V_reads' HO426.out).2.1); rintro e w36 ⟨rfl, hb⟩; refine ⟨_, rfl, ?_⟩; replace HO426 := Aside0.mk (Kd.V_below (by refine upV ?_; exact (Kd.V_mono (farV1 (g := gb423) (Kd.V_far (p := ⟨gb422, 0, none⟩) (Kd.V_mono (Kd.V_mono HO426.out (fun k_ hk => (⟨hk, hk.1⟩ : _ ∧ k_ ≠ gb422))) (fun k_ hk => (⟨hk, hk.1.2⟩ : _ ∧ k_ ≠ gb423))) (fun _ hk => hk.1.2) (.slice Ao30 t424.length co30)) 0 (.slice Ao32 t427.length co32)) (fun _ h_ => h_.1))) hb); replace HO429 := Aside0.mk (Kd.V_below (by refine upV ?_; exact (Kd.V_mono (farV1 (g := gb423) (Kd.V_far (p := ⟨gb422, 0, none⟩) (Kd.V_mono (Kd.V_mono HO429.out (fun k_ hk => (⟨hk, hk.1⟩ : _ ∧ k_ ≠ gb422))) (fun k_ hk => (⟨hk, hk.1.2⟩ : _ ∧ k_ ≠ gb423))) (fun _ hk => hk.1.2) (.slice Ao30 t424.length co30)) 0 (.slice Ao32 t427.length co32)) (fun _ h_ => h_.1))) hb); replace BK422 := Aside0.mk (blk_below (g := gb422) (o := .cells #[.slice Ao30 t424.length co30] 24 (0, 0)) (by refine upK ?_; refine blk_far ?_ NB422_423.out _; refine upK ?_; refine blk_put (cs := #[.slice A0_0 l0_0.length c0_0]) ?_ 0 _ rfl; refine upK ?_; exact BK422.out) hb); replace BK423 := Aside0.mk (blk_below (g := gb423) (o := .cells #[.slice Ao32 t427.length co32] 24 (0, 0)) (by refine upK ?_; refine blk_put (cs := #[.slice A1_0 l1_0.length c1_0]) ?_ 0 _ rfl; refine upK ?_; refine blk_far ?_ NB423_422.out _; refine upK ?_; exact BK423.out) hb); replace HB := Aside0.mk (below_step (upB2 HB.out GE422.out GE423.out) hb); (try clear hb); (try clear hb2); (try clear hk); (try clear hi); obtain ⟨hcz37_0, hfz37_0⟩ := cells1 BK422.out) | ((with_reducible refine gate_callee (f := 29) rfl ?_); refine goesL_ (some 28) rfl rfl Try.func29 (by kernel_rfl) rfl #[.agg #[.slice Ao30 t424.length co30]] rfl argA ?_; (with_reducible refine (plinthref25_Root.calls k _ _ t424 t432 t433 _ ?side1 ?side2 A8.out).mono ?_); (case side1 => exact upC ((Kd.V_reads' HO426.out).2.2)); (case side2 => exact (Kd.V_reads' HO426.out).2.1); rintro e w38 ⟨rfl, hb⟩; refine ⟨_, rfl, ?_⟩; replace HO426 := Aside0.mk (Kd.V_below (upV HO426.out) hb); replace HO429 := Aside0.mk (Kd.V_below (upV HO429.out) hb); replace BK422 := Aside0.mk (blk_below (upK BK422.out) hb); replace BK423 := Aside0.mk (blk_below (upK BK423.out) hb); replace HB := Aside0.mk (below_step (upB2 HB.out GE422.out GE423.out) hb); (try clear hb); (try clear hb2); (try clear hk); (try clear hi); obtain ⟨hcz39_0, hfz39_0⟩ := cells1 BK422.out) | ((with_reducible refine gate_callee (f := 30) rfl ?_); refine goesL_ (some 35) rfl rfl Try.func30 (by kernel_rfl) rfl #[.agg #[.slice Ao30 t424.length co30], .int .i64 a2, .int .u32 a3] rfl argA ?_; (with_reducible refine (tree_Put.calls k _ _ t424 a2 a3 t434 t437 _ ?side1 ?side2 A9.out).mono ?_); (case side1 => exact upC ((Kd.V_reads' HO426.out).2.2)); (case side2 => exact (Kd.V_reads' HO426.out).2.1); rintro e w40 ⟨v435, rfl, ho0, hb⟩; refine ⟨_, rfl, ?_⟩; replace HO426 := Aside0.mk (Kd.V_below (upV HO426.out) hb); replace HO429 := Aside0.mk (Kd.V_below (upV HO429.out) hb); have HO436 := Aside0.mk (Kd.V_lower (Kd.V_mono (ok' := fun k_ => k_ ≠ gb422 ∧ k_ ≠ gb423) ho0 (fun k_ hk_ => ⟨(Kd.freshB (upK BK422.out) k_ hk_), (Kd.freshB (upK BK423.out) k_ hk_)⟩)) (below_size (upB2 HB.out GE422.out GE423.out))); replace BK422 := Aside0.mk (blk_below (upK BK422.out) hb); replace BK423 := Aside0.mk (blk_below (upK BK423.out) hb); replace HB := Aside0.mk (below_step (upB2 HB.out GE422.out GE423.out) hb); (try clear hb); (try clear hb2); (try clear hk); (try clear hi); (try clear ho0)) | ((with_reducible refine gate_dst (N := 13) rfl ?_); refine box_event ?hg (N := 13) ?hd (cs := #[.slice none 0 0]) (t := 24) ?hr ?_; (case hd => rfl); (case hg => rfl); (case hr => first | (go_simp; done) | (go_simp; rfl)); intro gb438 hg w41 hbox hb; replace HO426 := Aside0.mk (Kd.V_below (Kd.V_elderB (upV HO426.out) gb438 (Nat.le_of_eq hg.symm)) hb); replace HO429 := Aside0.mk (Kd.V_below (Kd.V_elderB (upV HO429.out) gb438 (Nat.le_of_eq hg.symm)) hb); replace HO436 := Aside0.mk (Kd.V_below (Kd.V_elderB (upV HO436.out) gb438 (Nat.le_of_eq hg.symm)) hb); have BK438 := Aside0.mk (hbox); have GW438 := Aside0.mk ((by rw [hg]; exact (below_size (upB2 HB.out GE422.out GE423.out)) : w.heap.size ≤ gb438)); have GE438 := Aside0.mk ((by rw [hg]; exact (below_size (upB2 HB.out GE422.out GE423.out)) : w.heap.size ≤ gb438)); replace HB := Aside0.mk (below_step (upB2 HB.out GE422.out GE423.out) hb); have NB422_438 := Aside0.mk ((by rw [hg]; exact Nat.ne_of_lt (blk_lt (upK BK422.out)) : gb422 ≠ gb438)); have NB438_422 := Aside0.mk ((by rw [hg]; exact Nat.ne_of_gt (blk_lt (upK BK422.out)) : gb438 ≠ gb422)); replace BK422 := Aside0.mk (blk_below (upK BK422.out) hb); have NB423_438 := Aside0.mk ((by rw [hg]; exact Nat.ne_of_lt (blk_lt (upK BK423.out)) : gb423 ≠ gb438)); have NB438_423 := Aside0.mk ((by rw [hg]; exact Nat.ne_of_gt (blk_lt (upK BK423.out)) : gb438 ≠ gb423)); replace BK423 := Aside0.mk (blk_below (upK BK423.out) hb); clear hb hbox hg; obtain ⟨Ao42, co42, eo42⟩ := Kd.V_slice HO436.out; subst eo42; have hnb43 := NB438_422.out; have hnc43 := NB422_438.out; have hnb44 := NB438_423.out; have hnc44 := NB423_438.out; obtain ⟨hcz45_0, hfz45_0⟩ := cells1 BK438.out; obtain ⟨hcz46_0, hfz46_0⟩ := cells1 BK422.out) | ((with_reducible refine gate_callee (f := 31) rfl ?_); refine goesL_ (some 42) rfl rfl Try.func31 (by kernel_rfl) rfl #[.agg #[.slice Ao30 t424.length co30], .int .i64 a2, .int .u32 a3] rfl argA ?_; (with_reducible refine (plinthref25_Put.calls k _ _ t424 a2 a3 t439 t442 _ ?side1 ?side2 A10.out).mono ?_); (case side1 => refine (Kd.V_reads' (e := 40) (base := w.heap.size) (ok := fun k_ => ((k_ ≠ gb422 ∧ k_ ≠ gb423) ∧ k_ ≠ gb438)) (n := t424.length) (c := co30) ?_).2.2; exact (by refine upV ?_; exact (fV1 (Kd.V_mono HO426.out (fun k_ hk => (⟨hk, hk.2⟩ : _ ∧ k_ ≠ gb438)))))); (case side2 => exact (Kd.V_reads' HO426.out).2.1); rintro e w47 ⟨v440, rfl, ho0, hb⟩; refine ⟨_, rfl, ?_⟩; replace HO426 := Aside0.mk (Kd.V_below (by refine upV ?_; exact (fV1 (Kd.V_mono HO426.out (fun k_ hk => (⟨hk, hk.2⟩ : _ ∧ k_ ≠ gb438))))) hb); replace HO429 := Aside0.mk (Kd.V_below (by refine upV ?_; exact (fV1 (Kd.V_mono HO429.out (fun k_ hk => (⟨hk, hk.2⟩ : _ ∧ k_ ≠ gb438))))) hb); replace HO436 := Aside0.mk (Kd.V_below (by refine upV ?_; exact (fV1 (Kd.V_mono HO436.out (fun k_ hk => (⟨hk, hk.2⟩ : _ ∧ k_ ≠ gb438))))) hb); have HO441 := Aside0.mk (Kd.V_lower (Kd.V_mono (ok' := fun k_ => k_ ≠ gb422 ∧ k_ ≠ gb423 ∧ k_ ≠ gb438) ho0 (fun k_ hk_ => ⟨(Kd.freshB (g := gb422) (o := .cells #[.slice Ao30 t424.length co30] 24 (0, 0)) (by refine upK ?_; refine blk_far ?_ NB422_438.out _; refine upK ?_; exact BK422.out) k_ hk_), (Kd.freshB (g := gb423) (o := .cells #[.slice Ao32 t427.length co32] 24 (0, 0)) (by refine upK ?_; refine blk_far ?_ NB423_438.out _; refine upK ?_; exact BK423.out) k_ hk_), (Kd.freshB (g := gb438) (o := .cells #[.slice Ao42 t434.length co42] 24 (0, 0)) (by refine upK ?_; refine blk_put (cs := #[.slice none 0 0]) ?_ 0 _ rfl; refine upK ?_; exact BK438.out) k_ hk_)⟩)) (below_size (upB3 HB.out GE422.out GE423.out GE438.out))); replace BK422 := Aside0.mk (blk_below (g := gb422) (o := .cells #[.slice Ao30 t424.length co30] 24 (0, 0)) (by refine upK ?_; refine blk_far ?_ NB422_438.out _; refine upK ?_; exact BK422.out) hb); replace BK423 := Aside0.mk (blk_below (g := gb423) (o := .cells #[.slice Ao32 t427.length co32] 24 (0, 0)) (by refine upK ?_; refine blk_far ?_ NB423_438.out _; refine upK ?_; exact BK423.out) hb); replace BK438 := Aside0.mk (blk_below (g := gb438) (o := .cells #[.slice Ao42 t434.length co42] 24 (0, 0)) (by refine upK ?_; refine blk_put (cs := #[.slice none 0 0]) ?_ 0 _ rfl; refine upK ?_; exact BK438.out) hb); replace HB := Aside0.mk (below_step (upB3 HB.out GE422.out GE423.out GE438.out) hb); (try clear hb); (try clear hb2); (try clear hk); (try clear hi); (try clear ho0)) | ((with_reducible refine gate_dst (N := 15) rfl ?_); refine box_event ?hg (N := 15) ?hd (cs := #[.slice none 0 0]) (t := 24) ?hr ?_; (case hd => rfl); (case hg => rfl); (case hr => first | (go_simp; done) | (go_simp; rfl)); intro gb443 hg w48 hbox hb; replace HO426 := Aside0.mk (Kd.V_below (Kd.V_elderB (upV HO426.out) gb443 (Nat.le_of_eq hg.symm)) hb); replace HO429 := Aside0.mk (Kd.V_below (Kd.V_elderB (upV HO429.out) gb443 (Nat.le_of_eq hg.symm)) hb); replace HO436 := Aside0.mk (Kd.V_below (Kd.V_elderB (upV HO436.out) gb443 (Nat.le_of_eq hg.symm)) hb); replace HO441 := Aside0.mk (Kd.V_below (Kd.V_elderB (upV HO441.out) gb443 (Nat.le_of_eq hg.symm)) hb); have BK443 := Aside0.mk (hbox); have GW443 := Aside0.mk ((by rw [hg]; exact (below_size (upB3 HB.out GE422.out GE423.out GE438.out)) : w.heap.size ≤ gb443)); have GE443 := Aside0.mk ((by rw [hg]; exact (below_size (upB3 HB.out GE422.out GE423.out GE438.out)) : w.heap.size ≤ gb443)); replace HB := Aside0.mk (below_step (upB3 HB.out GE422.out GE423.out GE438.out) hb); have NB422_443 := Aside0.mk ((by rw [hg]; exact Nat.ne_of_lt (blk_lt (upK BK422.out)) : gb422 ≠ gb443)); have NB443_422 := Aside0.mk ((by rw [hg]; exact Nat.ne_of_gt (blk_lt (upK BK422.out)) : gb443 ≠ gb422)); replace BK422 := Aside0.mk (blk_below (upK BK422.out) hb); have NB423_443 := Aside0.mk ((by rw [hg]; exact Nat.ne_of_lt (blk_lt (upK BK423.out)) : gb423 ≠ gb443)); have NB443_423 := Aside0.mk ((by rw [hg]; exact Nat.ne_of_gt (blk_lt (upK BK423.out)) : gb443 ≠ gb423)); replace BK423 := Aside0.mk (blk_below (upK BK423.out) hb); have NB438_443 := Aside0.mk ((by rw [hg]; exact Nat.ne_of_lt (blk_lt (upK BK438.out)) : gb438 ≠ gb443)); have NB443_438 := Aside0.mk ((by rw [hg]; exact Nat.ne_of_gt (blk_lt (upK BK438.out)) : gb443 ≠ gb438)); replace BK438 := Aside0.mk (blk_below (upK BK438.out) hb); clear hb hbox hg; obtain ⟨Ao49, co49, eo49⟩ := Kd.V_slice HO441.out; subst eo49; have hnb50 := NB443_422.out; have hnc50 := NB422_443.out; have hnb51 := NB443_423.out; have hnc51 := NB423_443.out; have hnb52 := NB443_438.out; have hnc52 := NB438_443.out; obtain ⟨hcz53_0, hfz53_0⟩ := cells1 BK443.out))
        have n0_ : Aside0 (Kd.V (Kd.slice 25 (Kd.int .u32)) 40 (w48.setCell ⟨gb443, 0, none⟩ (.slice Ao49 t439.length co49)) w.heap.size (fun k_ => k_ ≠ gb422 ∧ k_ ≠ gb423 ∧ k_ ≠ gb438 ∧ k_ ≠ gb443) (.slice Ao30 t424.length co30) t424) := ⟨by refine upV ?_; exact Kd.V_mono (garV1 (g := gb443) (Kd.V_mono HO426.out (fun k_ hk => (⟨hk, hk.2⟩ : _ ∧ k_ ≠ gb443))) 0 (.slice Ao49 t439.length co49)) (fun _ hk => ⟨hk.1.1.1.1, ⟨hk.1.1.1.2, ⟨hk.1.1.2, hk.1.2⟩⟩⟩)⟩
        have n1_ : Aside0 (Kd.V (Kd.slice 25 (Kd.int .u32)) 40 (w48.setCell ⟨gb443, 0, none⟩ (.slice Ao49 t439.length co49)) w.heap.size (fun k_ => k_ ≠ gb422 ∧ k_ ≠ gb423 ∧ k_ ≠ gb438 ∧ k_ ≠ gb443) (.slice Ao32 t427.length co32) t427) := ⟨by refine upV ?_; exact Kd.V_mono (garV1 (g := gb443) (Kd.V_mono HO429.out (fun k_ hk => (⟨hk, hk.2⟩ : _ ∧ k_ ≠ gb443))) 0 (.slice Ao49 t439.length co49)) (fun _ hk => ⟨hk.1.1.1.1, ⟨hk.1.1.1.2, ⟨hk.1.1.2, hk.1.2⟩⟩⟩)⟩
        have n2_ : Aside0 (Kd.V (Kd.slice 25 (Kd.int .u32)) 40 (w48.setCell ⟨gb443, 0, none⟩ (.slice Ao49 t439.length co49)) w.heap.size (fun k_ => k_ ≠ gb422 ∧ k_ ≠ gb423 ∧ k_ ≠ gb438 ∧ k_ ≠ gb443) (.slice Ao42 t434.length co42) t434) := ⟨by refine upV ?_; exact Kd.V_mono (garV1 (g := gb443) (Kd.V_mono HO436.out (fun k_ hk => (⟨hk, hk.2⟩ : _ ∧ k_ ≠ gb443))) 0 (.slice Ao49 t439.length co49)) (fun _ hk => ⟨hk.1.1.1.1, ⟨hk.1.1.1.2, ⟨hk.1.1.2, hk.1.2⟩⟩⟩)⟩
        have n3_ : Aside0 (Kd.V (Kd.slice 25 (Kd.int .u32)) 40 (w48.setCell ⟨gb443, 0, none⟩ (.slice Ao49 t439.length co49)) w.heap.size (fun k_ => k_ ≠ gb422 ∧ k_ ≠ gb423 ∧ k_ ≠ gb438 ∧ k_ ≠ gb443) (.slice Ao49 t439.length co49) t439) := ⟨by refine upV ?_; exact Kd.V_mono (garV1 (g := gb443) (Kd.V_mono HO441.out (fun k_ hk => (⟨hk, hk.2⟩ : _ ∧ k_ ≠ gb443))) 0 (.slice Ao49 t439.length co49)) (fun _ hk => ⟨hk.1.1.1, ⟨hk.1.1.2.1, ⟨hk.1.1.2.2, hk.1.2⟩⟩⟩)⟩
        have n4_ : Aside0 ((w48.setCell ⟨gb443, 0, none⟩ (.slice Ao49 t439.length co49)).heap[gb422]? = some (.cells #[.slice Ao30 t424.length co30] 24 (0, 0))) := ⟨by refine upK ?_; refine blk_far ?_ NB422_443.out _; refine upK ?_; exact BK422.out⟩
        have n5_ : Aside0 ((w48.setCell ⟨gb443, 0, none⟩ (.slice Ao49 t439.length co49)).heap[gb423]? = some (.cells #[.slice Ao32 t427.length co32] 24 (0, 0))) := ⟨by refine upK ?_; refine blk_far ?_ NB423_443.out _; refine upK ?_; exact BK423.out⟩
        have n6_ : Aside0 ((w48.setCell ⟨gb443, 0, none⟩ (.slice Ao49 t439.length co49)).heap[gb438]? = some (.cells #[.slice Ao42 t434.length co42] 24 (0, 0))) := ⟨by refine upK ?_; refine blk_far ?_ NB438_443.out _; refine upK ?_; exact BK438.out⟩
        have n7_ : Aside0 ((w48.setCell ⟨gb443, 0, none⟩ (.slice Ao49 t439.length co49)).heap[gb443]? = some (.cells #[.slice Ao49 t439.length co49] 24 (0, 0))) := ⟨by refine upK ?_; refine blk_put (cs := #[.slice none 0 0]) ?_ 0 _ rfl; refine upK ?_; exact BK443.out⟩
        have n8_ : Aside0 (Below w.heap.size w (w48.setCell ⟨gb443, 0, none⟩ (.slice Ao49 t439.length co49))) := ⟨upB4 HB.out GE422.out GE423.out GE438.out GE443.out⟩
        (try clear HO426); (try clear HO429); (try clear HO436); (try clear HO441); (try clear BK422); (try clear BK423); (try clear BK438); (try clear BK443); (try clear HB)
        generalize (w48.setCell ⟨gb443, 0, none⟩ (.slice Ao49 t439.length co49)) = w54 at n0_ n1_ n2_ n3_ n4_ n5_ n6_ n7_ n8_ ⊢
        have HO426 := n0_
        have HO429 := n1_
        have HO436 := n2_
        have HO441 := n3_
        have BK422 := n4_
        have BK423 := n5_
        have BK438 := n6_
        have BK443 := n7_
        have HB := n8_
        clear n0_ n1_ n2_ n3_ n4_ n5_ n6_ n7_ n8_
        replace HO426 := Aside0.mk (Kd.V_drew HO426.out)
        replace HO429 := Aside0.mk (Kd.V_drew HO429.out)
        replace HO436 := Aside0.mk (Kd.V_drew HO436.out)
        replace HO441 := Aside0.mk (Kd.V_drew HO441.out)
        replace BK422 := Aside0.mk (blk_drew BK422.out)
        replace BK423 := Aside0.mk (blk_drew BK423.out)
        replace BK438 := Aside0.mk (blk_drew BK438.out)
        replace BK443 := Aside0.mk (blk_drew BK443.out)
        replace HB := Aside0.mk (below_drew1 HB.out)
        refine start_ (n := 43) (S := fun w' => w'.cell? ⟨gb422, 0, none⟩ = some (.slice Ao30 t424.length co30) ∧ w'.cell? ⟨gb438, 0, none⟩ = some (.slice Ao42 t434.length co42) ∧ w'.cell? ⟨gb443, 0, none⟩ = some (.slice Ao49 t439.length co49) ∧ w'.cell? ⟨gb423, 0, none⟩ = some (.slice Ao32 t427.length co32)) (ds := []) (Array.replicate 43 false) (by kernel_rfl) rfl rfl ⟨(blk_cell BK422.out 0).trans rfl, (blk_cell BK438.out 0).trans rfl, (blk_cell BK443.out 0).trans rfl, (blk_cell BK423.out 0).trans rfl⟩ (fun hHeld => ?_); refine with_tabW plinthlaw25_TreeAsks.tab6 plinthlaw25_TreeAsks.bits6 (fun HT_ HW_ => ?_)
        generalize w54.drew = w55 at HO426 HO429 HO436 HO441 BK422 BK423 BK438 BK443 HB hHeld ⊢
        refine tM 0 45 HT_.out HW_.out hHeld ?_; refine tM 2 47 HT_.out HW_.out hHeld ?_
        refine oM 1 46 HT_.out (fun K hK => ?_)
        refine gM Try.func32 #[.agg #[.slice Ao30 t424.length co30]] ?_
        with_reducible refine (tree_Check.calls k _ _ t424 t444 _ ?side1 ?side2 A11.out).mono ?_
        (case side1 => exact upC ((Kd.V_reads' HO426.out).2.2))
        (case side2 => exact (Kd.V_reads' HO426.out).2.1)
        rintro e w56 ⟨rfl, hb⟩
        refine ⟨_, rfl, ?_⟩
        replace HO426 := Aside0.mk (Kd.V_below (upV HO426.out) hb)
        replace HO429 := Aside0.mk (Kd.V_below (upV HO429.out) hb)
        replace HO436 := Aside0.mk (Kd.V_below (upV HO436.out) hb)
        replace HO441 := Aside0.mk (Kd.V_below (upV HO441.out) hb)
        replace BK422 := Aside0.mk (blk_below (upK BK422.out) hb)
        replace BK423 := Aside0.mk (blk_below (upK BK423.out) hb)
        replace BK438 := Aside0.mk (blk_below (upK BK438.out) hb)
        replace BK443 := Aside0.mk (blk_below (upK BK443.out) hb)
        replace HB := Aside0.mk (below_step (upB4 HB.out GE422.out GE423.out GE438.out GE443.out) hb)
        (try clear hb); (try clear hb2); (try clear hk); (try clear hi)
        refine hK.out _ _ ⟨(blk_cell BK422.out 0).trans rfl, (blk_cell BK438.out 0).trans rfl, (blk_cell BK443.out 0).trans rfl, (blk_cell BK423.out 0).trans rfl⟩ (fun hHeld => ?_)
        clear hK K
        refine nM 46 ?_
        refine oM 3 48 HT_.out (fun K hK => ?_)
        refine gM Try.func33 #[.agg #[.slice Ao30 t424.length co30]] ?_
        with_reducible refine (plinthref25_Check.calls k _ _ t424 t445 _ ?side1 ?side2 A12.out).mono ?_
        (case side1 => exact upC ((Kd.V_reads' HO426.out).2.2))
        (case side2 => exact (Kd.V_reads' HO426.out).2.1)
        rintro e w57 ⟨rfl, hb⟩
        refine ⟨_, rfl, ?_⟩
        replace HO426 := Aside0.mk (Kd.V_below (upV HO426.out) hb)
        replace HO429 := Aside0.mk (Kd.V_below (upV HO429.out) hb)
        replace HO436 := Aside0.mk (Kd.V_below (upV HO436.out) hb)
        replace HO441 := Aside0.mk (Kd.V_below (upV HO441.out) hb)
        replace BK422 := Aside0.mk (blk_below (upK BK422.out) hb)
        replace BK423 := Aside0.mk (blk_below (upK BK423.out) hb)
        replace BK438 := Aside0.mk (blk_below (upK BK438.out) hb)
        replace BK443 := Aside0.mk (blk_below (upK BK443.out) hb)
        replace HB := Aside0.mk (below_step (upB4 HB.out GE422.out GE423.out GE438.out GE443.out) hb)
        (try clear hb); (try clear hb2); (try clear hk); (try clear hi)
        refine hK.out _ _ ⟨(blk_cell BK422.out 0).trans rfl, (blk_cell BK438.out 0).trans rfl, (blk_cell BK443.out 0).trans rfl, (blk_cell BK423.out 0).trans rfl⟩ (fun hHeld => ?_)
        clear hK K
        refine nM 48 ?_; refine pM 4 49 HT_.out ?_; refine pM 5 50 HT_.out ?_; refine pM 6 51 HT_.out ?_; refine pM 7 52 HT_.out ?_; refine pM 8 53 HT_.out ?_; refine pM 9 54 HT_.out ?_; refine pM 10 55 HT_.out ?_; refine pM 11 56 HT_.out ?_; refine pM 12 57 HT_.out ?_; refine pM 13 58 HT_.out ?_; refine pM 14 59 HT_.out ?_; refine pM 15 60 HT_.out ?_; refine tM 16 61 HT_.out HW_.out hHeld ?_; refine tM 17 62 HT_.out HW_.out hHeld ?_
        refine oM 18 63 HT_.out (fun K hK => ?_)
        refine gM Try.func27 #[.agg #[.slice Ao42 t434.length co42], .agg #[.slice Ao49 t439.length co49]] ?_
        with_reducible refine (plinthref25_Same.calls k _ _ t434 _ _ t439 true _ ?side1 ?side2 ?side3 ?side4 A16.out).mono ?_
        (case side1 => exact upC ((Kd.V_reads' HO436.out).2.2))
        (case side2 => exact (Kd.V_reads' HO436.out).2.1)
        (case side3 => exact upC ((Kd.V_reads' HO441.out).2.2))
        (case side4 => exact (Kd.V_reads' HO441.out).2.1)
        rintro e w58 ⟨rfl, hb⟩
        refine ⟨_, rfl, ?_⟩
        replace HO426 := Aside0.mk (Kd.V_below (upV HO426.out) hb)
        replace HO429 := Aside0.mk (Kd.V_below (upV HO429.out) hb)
        replace HO436 := Aside0.mk (Kd.V_below (upV HO436.out) hb)
        replace HO441 := Aside0.mk (Kd.V_below (upV HO441.out) hb)
        replace BK422 := Aside0.mk (blk_below (upK BK422.out) hb)
        replace BK423 := Aside0.mk (blk_below (upK BK423.out) hb)
        replace BK438 := Aside0.mk (blk_below (upK BK438.out) hb)
        replace BK443 := Aside0.mk (blk_below (upK BK443.out) hb)
        replace HB := Aside0.mk (below_step (upB4 HB.out GE422.out GE423.out GE438.out GE443.out) hb)
        (try clear hb); (try clear hb2); (try clear hk); (try clear hi)
        refine hK.out _ _ ⟨(blk_cell BK422.out 0).trans rfl, (blk_cell BK438.out 0).trans rfl, (blk_cell BK443.out 0).trans rfl, (blk_cell BK423.out 0).trans rfl⟩ (fun hHeld => ?_)
        clear hK K
        refine nM 63 ?_; refine pM 19 64 HT_.out ?_; refine pM 20 65 HT_.out ?_; refine pM 21 66 HT_.out ?_; refine pM 22 67 HT_.out ?_; refine pM 23 68 HT_.out ?_; refine pM 24 69 HT_.out ?_; refine pM 25 70 HT_.out ?_; refine tM 26 71 HT_.out HW_.out hHeld ?_; refine tM 27 72 HT_.out HW_.out hHeld ?_; refine tM 29 74 HT_.out HW_.out hHeld ?_; refine tM 30 75 HT_.out HW_.out hHeld ?_
        refine oM 28 73 HT_.out (fun K hK => ?_)
        refine gM Try.func34 #[.agg #[.slice Ao30 t424.length co30], .agg #[.slice Ao32 t427.length co32]] ?_
        with_reducible refine (tree_Same.calls k _ _ t424 _ _ t427 t447 _ ?side1 ?side2 ?side3 ?side4 A19.out).mono ?_
        (case side1 => exact upC ((Kd.V_reads' HO426.out).2.2))
        (case side2 => exact (Kd.V_reads' HO426.out).2.1)
        (case side3 => exact upC ((Kd.V_reads' HO429.out).2.2))
        (case side4 => exact (Kd.V_reads' HO429.out).2.1)
        rintro e w59 ⟨rfl, hb⟩
        refine ⟨_, rfl, ?_⟩
        replace HO426 := Aside0.mk (Kd.V_below (upV HO426.out) hb)
        replace HO429 := Aside0.mk (Kd.V_below (upV HO429.out) hb)
        replace HO436 := Aside0.mk (Kd.V_below (upV HO436.out) hb)
        replace HO441 := Aside0.mk (Kd.V_below (upV HO441.out) hb)
        replace BK422 := Aside0.mk (blk_below (upK BK422.out) hb)
        replace BK423 := Aside0.mk (blk_below (upK BK423.out) hb)
        replace BK438 := Aside0.mk (blk_below (upK BK438.out) hb)
        replace BK443 := Aside0.mk (blk_below (upK BK443.out) hb)
        replace HB := Aside0.mk (below_step (upB4 HB.out GE422.out GE423.out GE438.out GE443.out) hb)
        (try clear hb); (try clear hb2); (try clear hk); (try clear hi)
        refine hK.out _ _ ⟨(blk_cell BK422.out 0).trans rfl, (blk_cell BK438.out 0).trans rfl, (blk_cell BK443.out 0).trans rfl, (blk_cell BK423.out 0).trans rfl⟩ (fun hHeld => ?_)
        clear hK K
        refine nM 73 ?_
        refine oM 31 76 HT_.out (fun K hK => ?_)
        refine gM Try.func27 #[.agg #[.slice Ao30 t424.length co30], .agg #[.slice Ao32 t427.length co32]] ?_
        with_reducible refine (plinthref25_Same.calls k _ _ t424 _ _ t427 t448 _ ?side1 ?side2 ?side3 ?side4 A20.out).mono ?_
        (case side1 => exact upC ((Kd.V_reads' HO426.out).2.2))
        (case side2 => exact (Kd.V_reads' HO426.out).2.1)
        (case side3 => exact upC ((Kd.V_reads' HO429.out).2.2))
        (case side4 => exact (Kd.V_reads' HO429.out).2.1)
        rintro e w60 ⟨rfl, hb⟩
        refine ⟨_, rfl, ?_⟩
        replace HO426 := Aside0.mk (Kd.V_below (upV HO426.out) hb)
        replace HO429 := Aside0.mk (Kd.V_below (upV HO429.out) hb)
        replace HO436 := Aside0.mk (Kd.V_below (upV HO436.out) hb)
        replace HO441 := Aside0.mk (Kd.V_below (upV HO441.out) hb)
        replace BK422 := Aside0.mk (blk_below (upK BK422.out) hb)
        replace BK423 := Aside0.mk (blk_below (upK BK423.out) hb)
        replace BK438 := Aside0.mk (blk_below (upK BK438.out) hb)
        replace BK443 := Aside0.mk (blk_below (upK BK443.out) hb)
        replace HB := Aside0.mk (below_step (upB4 HB.out GE422.out GE423.out GE438.out GE443.out) hb)
        (try clear hb); (try clear hb2); (try clear hk); (try clear hi)
        refine hK.out _ _ ⟨(blk_cell BK422.out 0).trans rfl, (blk_cell BK438.out 0).trans rfl, (blk_cell BK443.out 0).trans rfl, (blk_cell BK423.out 0).trans rfl⟩ (fun hHeld => ?_)
        clear hK K
        refine nM 76 ?_; refine pM 32 77 HT_.out ?_; refine pM 33 78 HT_.out ?_; refine pM 34 79 HT_.out ?_; refine tM 35 80 HT_.out HW_.out hHeld ?_; refine tM 36 81 HT_.out HW_.out hHeld ?_
        refine oM 37 82 HT_.out (fun K hK => ?_)
        refine gM Try.func34 #[.agg #[.slice Ao30 t424.length co30], .agg #[.slice Ao30 t424.length co30]] ?_
        with_reducible refine (tree_Same.calls k _ _ t424 _ _ t424 true _ ?side1 ?side2 ?side3 ?side4 A22.out).mono ?_
        (case side1 => exact upC ((Kd.V_reads' HO426.out).2.2))
        (case side2 => exact (Kd.V_reads' HO426.out).2.1)
        (case side3 => exact upC ((Kd.V_reads' HO426.out).2.2))
        (case side4 => exact (Kd.V_reads' HO426.out).2.1)
        rintro e w61 ⟨rfl, hb⟩
        refine ⟨_, rfl, ?_⟩
        replace HO426 := Aside0.mk (Kd.V_below (upV HO426.out) hb)
        replace HO429 := Aside0.mk (Kd.V_below (upV HO429.out) hb)
        replace HO436 := Aside0.mk (Kd.V_below (upV HO436.out) hb)
        replace HO441 := Aside0.mk (Kd.V_below (upV HO441.out) hb)
        replace BK422 := Aside0.mk (blk_below (upK BK422.out) hb)
        replace BK423 := Aside0.mk (blk_below (upK BK423.out) hb)
        replace BK438 := Aside0.mk (blk_below (upK BK438.out) hb)
        replace BK443 := Aside0.mk (blk_below (upK BK443.out) hb)
        replace HB := Aside0.mk (below_step (upB4 HB.out GE422.out GE423.out GE438.out GE443.out) hb)
        (try clear hb); (try clear hb2); (try clear hk); (try clear hi)
        refine hK.out _ _ ⟨(blk_cell BK422.out 0).trans rfl, (blk_cell BK438.out 0).trans rfl, (blk_cell BK443.out 0).trans rfl, (blk_cell BK423.out 0).trans rfl⟩ (fun hHeld => ?_)
        clear hK K
        refine nM 82 ?_; refine pM 38 83 HT_.out ?_; refine pM 39 84 HT_.out ?_
        refine oM 40 85 HT_.out (fun K hK => ?_)
        refine gM Try.func19 #[] ?_
        with_reducible refine (plinthlaw25_awake.calls k  t450 _ A24.out).mono ?_
        rintro e w62 ⟨rfl, hb⟩
        refine ⟨_, rfl, ?_⟩
        replace HO426 := Aside0.mk (Kd.V_below (upV HO426.out) hb)
        replace HO429 := Aside0.mk (Kd.V_below (upV HO429.out) hb)
        replace HO436 := Aside0.mk (Kd.V_below (upV HO436.out) hb)
        replace HO441 := Aside0.mk (Kd.V_below (upV HO441.out) hb)
        replace BK422 := Aside0.mk (blk_below (upK BK422.out) hb)
        replace BK423 := Aside0.mk (blk_below (upK BK423.out) hb)
        replace BK438 := Aside0.mk (blk_below (upK BK438.out) hb)
        replace BK443 := Aside0.mk (blk_below (upK BK443.out) hb)
        replace HB := Aside0.mk (below_step (upB4 HB.out GE422.out GE423.out GE438.out GE443.out) hb)
        (try clear hb); (try clear hb2); (try clear hk); (try clear hi)
        refine hK.out _ _ ⟨(blk_cell BK422.out 0).trans rfl, (blk_cell BK438.out 0).trans rfl, (blk_cell BK443.out 0).trans rfl, (blk_cell BK423.out 0).trans rfl⟩ (fun hHeld => ?_)
        clear hK K
        refine nM 85 ?_; refine pM 41 86 HT_.out ?_; refine pM 42 8 HT_.out ?_
        refine done_ (done_of HT_.out (by kernel_rfl)) ?_
        try go_wp2
        go_ret
        exact ⟨by first | rfl | (simp [errW_none, errW_some] <;> rfl) | (simp [*, errW_none, errW_some] <;> rfl), upB4 HB.out GE422.out GE423.out GE438.out GE443.out⟩
       ·replace c23 := Bool.eq_false_iff.mpr c23
        subst c23
        have H1 : (some false) = some r := by rw [if_neg (show ¬ (false = true) by decide)] at H; exact H
        clear H
        have H := H1
        clear H1
        obtain rfl := Option.some.inj H
        go_enter Try.func6, Try.ntmps6
        try go_wp2_with (first | ((with_reducible refine gate_dst (N := 4) rfl ?_); refine box_event ?hg (N := 4) ?hd (cs := #[.slice A0_0 l0_0.length c0_0]) (t := 24) ?hr ?_; (case hd => rfl); (case hg => rfl); (case hr => first | (go_simp; done) | (go_simp; rfl)); intro gb422 hg w63 hbox hb; have BK422 := Aside0.mk (hbox); have GW422 := Aside0.mk ((by rw [hg]; exact (below_size (upB0 HB.out)) : w.heap.size ≤ gb422)); have GE422 := Aside0.mk ((by rw [hg]; exact (below_size (upB0 HB.out)) : w.heap.size ≤ gb422)); replace HB := Aside0.mk (below_step (upB0 HB.out) hb); clear hb hbox hg) | ((with_reducible refine gate_dst (N := 5) rfl ?_); refine box_event ?hg (N := 5) ?hd (cs := #[.slice A1_0 l1_0.length c1_0]) (t := 24) ?hr ?_; (case hd => rfl); (case hg => rfl); (case hr => first | (go_simp; done) | (go_simp; rfl)); intro gb423 hg w64 hbox hb; have BK423 := Aside0.mk (hbox); have GW423 := Aside0.mk ((by rw [hg]; exact (below_size (upB1 HB.out GE422.out)) : w.heap.size ≤ gb423)); have GE423 := Aside0.mk ((by rw [hg]; exact (below_size (upB1 HB.out GE422.out)) : w.heap.size ≤ gb423)); replace HB := Aside0.mk (below_step (upB1 HB.out GE422.out) hb); have NB422_423 := Aside0.mk ((by rw [hg]; exact Nat.ne_of_lt (blk_lt (upK BK422.out)) : gb422 ≠ gb423)); have NB423_422 := Aside0.mk ((by rw [hg]; exact Nat.ne_of_gt (blk_lt (upK BK422.out)) : gb423 ≠ gb422)); replace BK422 := Aside0.mk (blk_below (upK BK422.out) hb); clear hb hbox hg))
        replace BK422 := Aside0.mk (blk_drew BK422.out)
        replace BK423 := Aside0.mk (blk_drew BK423.out)
        replace HB := Aside0.mk (below_drew1 HB.out)
        refine start_ (n := 6) (S := fun w' => w'.cell? ⟨gb422, 0, none⟩ = some (.slice A0_0 l0_0.length c0_0) ∧ w'.cell? ⟨gb423, 0, none⟩ = some (.slice A1_0 l1_0.length c1_0)) (ds := [4, 5]) (Array.replicate 6 false) (by kernel_rfl) rfl rfl ⟨(blk_cell BK422.out 0).trans rfl, (blk_cell BK423.out 0).trans rfl⟩ (fun hHeld => ?_)
        generalize w64.drew = w65 at BK422 BK423 HB hHeld ⊢
        refine take_ (i := 0) (N := some 17) (v := ?_) (a' := ?_) #[true, false, false, false, false, false] rfl rfl (by kernel_rfl) (fun _ _ _ h => h) (Or.inl ⟨by rfl, ?_⟩) hHeld ?_ ?_
        rotate_left
        ·rintro w' ⟨s0, s1⟩
         go_simp
         with_reducible rfl
        rotate_left
        ·simp only [Act.put, List.setIfInBounds_toArray, List.set_cons_zero, List.set_cons_succ, i64_w, i32_w]
         rfl
        refine take_ (i := 2) (N := some 19) (v := ?_) (a' := ?_) #[true, false, true, false, false, false] rfl rfl (by kernel_rfl) (fun _ _ _ h => h) (Or.inl ⟨by rfl, ?_⟩) hHeld ?_ ?_
        rotate_left
        ·rintro w' ⟨s0, s1⟩
         go_simp
         with_reducible rfl
        rotate_left
        ·simp only [Act.put, List.setIfInBounds_toArray, List.set_cons_zero, List.set_cons_succ, i64_w, i32_w]
         rfl
        refine one_ (i := 1) (N := some 18) #[true, true, true, false, false, false] rfl rfl (by kernel_rfl) (by decide) (fun K hK => ?_)
        refine gM Try.func12 #[.agg #[.slice A0_0 l0_0.length c0_0]] ?_
        with_reducible refine (plinthlaw25_cut.calls k (fun k_ => k_ < w.heap.size) _ _ l0_0 t424 _ ?side1 A5.out).mono ?_
        (case side1 => exact Kd.V_mk HC0_0.out (Kd.F_below (Kd.C_F (Kd.heap_slice 25 (Kd.heap_int .u32)) HR0_0.out) (upB2 HB.out GE422.out GE423.out)))
        rintro e w66 ⟨v425, rfl, ho0, hb⟩
        refine ⟨_, rfl, ?_⟩
        have HO426 := Aside0.mk (Kd.V_lower (Kd.V_mono (ok' := fun k_ => k_ ≠ gb422 ∧ k_ ≠ gb423) ho0 (fun k_ hk_ => ⟨Or.elim hk_ (fun hs_ => fun e_ => Nat.not_le.2 hs_ (by rw [e_]; exact GW422.out)) (fun hn_ => (Kd.freshB (upK BK422.out) k_ hn_)), Or.elim hk_ (fun hs_ => fun e_ => Nat.not_le.2 hs_ (by rw [e_]; exact GW423.out)) (fun hn_ => (Kd.freshB (upK BK423.out) k_ hn_))⟩)) (below_size (upB2 HB.out GE422.out GE423.out)))
        replace BK422 := Aside0.mk (blk_below (upK BK422.out) hb)
        replace BK423 := Aside0.mk (blk_below (upK BK423.out) hb)
        replace HB := Aside0.mk (below_step (upB2 HB.out GE422.out GE423.out) hb)
        (try clear hb); (try clear hb2); (try clear hk); (try clear hi); (try clear ho0)
        refine hK.out _ _ ⟨(blk_cell BK422.out 0).trans rfl, (blk_cell BK423.out 0).trans rfl⟩ (fun hHeld => ?_)
        clear hK K
        refine nM 18 ?_
        refine one_ (i := 3) (N := some 20) #[true, true, true, true, false, false] rfl rfl (by kernel_rfl) (by decide) (fun K hK => ?_)
        refine gM Try.func12 #[.agg #[.slice A1_0 l1_0.length c1_0]] ?_
        with_reducible refine (plinthlaw25_cut.calls k (fun k_ => k_ < w.heap.size) _ _ l1_0 t427 _ ?side1 A6.out).mono ?_
        (case side1 => exact Kd.V_mk HC1_0.out (Kd.F_below (Kd.C_F (Kd.heap_slice 25 (Kd.heap_int .u32)) HR1_0.out) (upB2 HB.out GE422.out GE423.out)))
        rintro e w67 ⟨v428, rfl, ho0, hb⟩
        refine ⟨_, rfl, ?_⟩
        replace HO426 := Aside0.mk (Kd.V_below (upV HO426.out) hb)
        have HO429 := Aside0.mk (Kd.V_lower (Kd.V_mono (ok' := fun k_ => k_ ≠ gb422 ∧ k_ ≠ gb423) ho0 (fun k_ hk_ => ⟨Or.elim hk_ (fun hs_ => fun e_ => Nat.not_le.2 hs_ (by rw [e_]; exact GW422.out)) (fun hn_ => (Kd.freshB (upK BK422.out) k_ hn_)), Or.elim hk_ (fun hs_ => fun e_ => Nat.not_le.2 hs_ (by rw [e_]; exact GW423.out)) (fun hn_ => (Kd.freshB (upK BK423.out) k_ hn_))⟩)) (below_size (upB2 HB.out GE422.out GE423.out)))
        replace BK422 := Aside0.mk (blk_below (upK BK422.out) hb)
        replace BK423 := Aside0.mk (blk_below (upK BK423.out) hb)
        replace HB := Aside0.mk (below_step (upB2 HB.out GE422.out GE423.out) hb)
        (try clear hb); (try clear hb2); (try clear hk); (try clear hi); (try clear ho0)
        obtain ⟨Ao68, co68, eo68⟩ := Kd.V_slice HO426.out
        (first | subst eo68 | (injection eo68 with f1_ f2_ f3_; have f4_ := f1_.symm; have f5_ := f3_.symm; clear f1_ f2_ f3_; subst f4_; subst f5_))
        obtain ⟨Ao70, co70, eo70⟩ := Kd.V_slice HO429.out
        (first | subst eo70 | (injection eo70 with f1_ f2_ f3_; have f4_ := f1_.symm; have f5_ := f3_.symm; clear f1_ f2_ f3_; subst f4_; subst f5_))
        refine hK.out _ _ ⟨(blk_cell BK422.out 0).trans rfl, (blk_cell BK423.out 0).trans rfl⟩ (fun hHeld => ?_)
        clear hK K
        refine nM 20 ?_
        refine last_ (i := 4) (N := none) #[true, true, true, true, true, false] rfl rfl (by kernel_rfl) (by decide) (fun K hK => ?_)
        have hs69 : w67.cell? ⟨gb422, 0, none⟩ = some (.slice A0_0 l0_0.length c0_0) := (blk_cell BK422.out 0).trans rfl
        have hfs69 := blk_frozen BK422.out 0
        have hns69_1 := NB423_422.out
        have hms69_1 := NB422_423.out
        refine skip_ (w1 := ?_) (by rfl) rfl ?_ ?_
        rotate_left
        ·go_simp
         rfl
        refine hK.out _ _ ?_
        clear hK K
        refine last_ (i := 5) (N := none) #[true, true, true, true, true, true] rfl rfl (by kernel_rfl) (by decide) (fun K hK => ?_)
        have hs71 : w67.cell? ⟨gb423, 0, none⟩ = some (.slice A1_0 l1_0.length c1_0) := (blk_cell BK423.out 0).trans rfl
        have hfs71 := blk_frozen BK423.out 0
        have hns71_0 := NB422_423.out
        have hms71_0 := NB423_422.out
        refine skip_ (w1 := ?_) (by rfl) rfl ?_ ?_
        rotate_left
        ·go_simp
         rfl
        refine hK.out _ _ ?_
        clear hK K
        refine done_ (by kernel_rfl) ?_
        have hnb72 := NB422_423.out
        have hnc72 := NB423_422.out
        obtain ⟨hcz73_0, hfz73_0⟩ := cells1 BK422.out
        try go_wp2_with (first | ((with_reducible refine gate_callee (f := 28) rfl ?_); refine goesL_ (some 23) rfl rfl Try.func28 (by kernel_rfl) rfl #[.agg #[.slice Ao68 t424.length co68]] rfl argA ?_; (with_reducible refine (tree_Root.calls k _ _ t424 t430 t431 _ ?side1 ?side2 A7.out).mono ?_); (case side1 => refine (Kd.V_reads' (e := 40) (base := w.heap.size) (ok := fun k_ => (k_ ≠ gb422 ∧ k_ ≠ gb423)) (n := t424.length) (c := co68) ?_).2.2; exact (by refine upV ?_; exact (Kd.V_mono (farV1 (g := gb423) (Kd.V_far (p := ⟨gb422, 0, none⟩) (Kd.V_mono (Kd.V_mono HO426.out (fun k_ hk => (⟨hk, hk.1⟩ : _ ∧ k_ ≠ gb422))) (fun k_ hk => (⟨hk, hk.1.2⟩ : _ ∧ k_ ≠ gb423))) (fun _ hk => hk.1.2) (.slice Ao68 t424.length co68)) 0 (.slice Ao70 t427.length co70)) (fun _ h_ => h_.1)))); (case side2 => exact (Kd.V_reads' HO426.out).2.1); rintro e w74 ⟨rfl, hb⟩; refine ⟨_, rfl, ?_⟩; replace HO426 := Aside0.mk (Kd.V_below (by refine upV ?_; exact (Kd.V_mono (farV1 (g := gb423) (Kd.V_far (p := ⟨gb422, 0, none⟩) (Kd.V_mono (Kd.V_mono HO426.out (fun k_ hk => (⟨hk, hk.1⟩ : _ ∧ k_ ≠ gb422))) (fun k_ hk => (⟨hk, hk.1.2⟩ : _ ∧ k_ ≠ gb423))) (fun _ hk => hk.1.2) (.slice Ao68 t424.length co68)) 0 (.slice Ao70 t427.length co70)) (fun _ h_ => h_.1))) hb); replace HO429 := Aside0.mk (Kd.V_below (by refine upV ?_; exact (Kd.V_mono (farV1 (g := gb423) (Kd.V_far (p := ⟨gb422, 0, none⟩) (Kd.V_mono (Kd.V_mono HO429.out (fun k_ hk => (⟨hk, hk.1⟩ : _ ∧ k_ ≠ gb422))) (fun k_ hk => (⟨hk, hk.1.2⟩ : _ ∧ k_ ≠ gb423))) (fun _ hk => hk.1.2) (.slice Ao68 t424.length co68)) 0 (.slice Ao70 t427.length co70)) (fun _ h_ => h_.1))) hb); replace BK422 := Aside0.mk (blk_below (g := gb422) (o := .cells #[.slice Ao68 t424.length co68] 24 (0, 0)) (by refine upK ?_; refine blk_far ?_ NB422_423.out _; refine upK ?_; refine blk_put (cs := #[.slice A0_0 l0_0.length c0_0]) ?_ 0 _ rfl; refine upK ?_; exact BK422.out) hb); replace BK423 := Aside0.mk (blk_below (g := gb423) (o := .cells #[.slice Ao70 t427.length co70] 24 (0, 0)) (by refine upK ?_; refine blk_put (cs := #[.slice A1_0 l1_0.length c1_0]) ?_ 0 _ rfl; refine upK ?_; refine blk_far ?_ NB423_422.out _; refine upK ?_; exact BK423.out) hb); replace HB := Aside0.mk (below_step (upB2 HB.out GE422.out GE423.out) hb); (try clear hb); (try clear hb2); (try clear hk); (try clear hi); obtain ⟨hcz75_0, hfz75_0⟩ := cells1 BK422.out) | ((with_reducible refine gate_callee (f := 29) rfl ?_); refine goesL_ (some 28) rfl rfl Try.func29 (by kernel_rfl) rfl #[.agg #[.slice Ao68 t424.length co68]] rfl argA ?_; (with_reducible refine (plinthref25_Root.calls k _ _ t424 t432 t433 _ ?side1 ?side2 A8.out).mono ?_); (case side1 => exact upC ((Kd.V_reads' HO426.out).2.2)); (case side2 => exact (Kd.V_reads' HO426.out).2.1); rintro e w76 ⟨rfl, hb⟩; refine ⟨_, rfl, ?_⟩; replace HO426 := Aside0.mk (Kd.V_below (upV HO426.out) hb); replace HO429 := Aside0.mk (Kd.V_below (upV HO429.out) hb); replace BK422 := Aside0.mk (blk_below (upK BK422.out) hb); replace BK423 := Aside0.mk (blk_below (upK BK423.out) hb); replace HB := Aside0.mk (below_step (upB2 HB.out GE422.out GE423.out) hb); (try clear hb); (try clear hb2); (try clear hk); (try clear hi); obtain ⟨hcz77_0, hfz77_0⟩ := cells1 BK422.out) | ((with_reducible refine gate_callee (f := 30) rfl ?_); refine goesL_ (some 35) rfl rfl Try.func30 (by kernel_rfl) rfl #[.agg #[.slice Ao68 t424.length co68], .int .i64 a2, .int .u32 a3] rfl argA ?_; (with_reducible refine (tree_Put.calls k _ _ t424 a2 a3 t434 t437 _ ?side1 ?side2 A9.out).mono ?_); (case side1 => exact upC ((Kd.V_reads' HO426.out).2.2)); (case side2 => exact (Kd.V_reads' HO426.out).2.1); rintro e w78 ⟨v435, rfl, ho0, hb⟩; refine ⟨_, rfl, ?_⟩; replace HO426 := Aside0.mk (Kd.V_below (upV HO426.out) hb); replace HO429 := Aside0.mk (Kd.V_below (upV HO429.out) hb); have HO436 := Aside0.mk (Kd.V_lower (Kd.V_mono (ok' := fun k_ => k_ ≠ gb422 ∧ k_ ≠ gb423) ho0 (fun k_ hk_ => ⟨(Kd.freshB (upK BK422.out) k_ hk_), (Kd.freshB (upK BK423.out) k_ hk_)⟩)) (below_size (upB2 HB.out GE422.out GE423.out))); replace BK422 := Aside0.mk (blk_below (upK BK422.out) hb); replace BK423 := Aside0.mk (blk_below (upK BK423.out) hb); replace HB := Aside0.mk (below_step (upB2 HB.out GE422.out GE423.out) hb); (try clear hb); (try clear hb2); (try clear hk); (try clear hi); (try clear ho0)) | ((with_reducible refine gate_dst (N := 13) rfl ?_); refine box_event ?hg (N := 13) ?hd (cs := #[.slice none 0 0]) (t := 24) ?hr ?_; (case hd => rfl); (case hg => rfl); (case hr => first | (go_simp; done) | (go_simp; rfl)); intro gb438 hg w79 hbox hb; replace HO426 := Aside0.mk (Kd.V_below (Kd.V_elderB (upV HO426.out) gb438 (Nat.le_of_eq hg.symm)) hb); replace HO429 := Aside0.mk (Kd.V_below (Kd.V_elderB (upV HO429.out) gb438 (Nat.le_of_eq hg.symm)) hb); replace HO436 := Aside0.mk (Kd.V_below (Kd.V_elderB (upV HO436.out) gb438 (Nat.le_of_eq hg.symm)) hb); have BK438 := Aside0.mk (hbox); have GW438 := Aside0.mk ((by rw [hg]; exact (below_size (upB2 HB.out GE422.out GE423.out)) : w.heap.size ≤ gb438)); have GE438 := Aside0.mk ((by rw [hg]; exact (below_size (upB2 HB.out GE422.out GE423.out)) : w.heap.size ≤ gb438)); replace HB := Aside0.mk (below_step (upB2 HB.out GE422.out GE423.out) hb); have NB422_438 := Aside0.mk ((by rw [hg]; exact Nat.ne_of_lt (blk_lt (upK BK422.out)) : gb422 ≠ gb438)); have NB438_422 := Aside0.mk ((by rw [hg]; exact Nat.ne_of_gt (blk_lt (upK BK422.out)) : gb438 ≠ gb422)); replace BK422 := Aside0.mk (blk_below (upK BK422.out) hb); have NB423_438 := Aside0.mk ((by rw [hg]; exact Nat.ne_of_lt (blk_lt (upK BK423.out)) : gb423 ≠ gb438)); have NB438_423 := Aside0.mk ((by rw [hg]; exact Nat.ne_of_gt (blk_lt (upK BK423.out)) : gb438 ≠ gb423)); replace BK423 := Aside0.mk (blk_below (upK BK423.out) hb); clear hb hbox hg; obtain ⟨Ao80, co80, eo80⟩ := Kd.V_slice HO436.out; subst eo80; have hnb81 := NB438_422.out; have hnc81 := NB422_438.out; have hnb82 := NB438_423.out; have hnc82 := NB423_438.out; obtain ⟨hcz83_0, hfz83_0⟩ := cells1 BK438.out; obtain ⟨hcz84_0, hfz84_0⟩ := cells1 BK422.out) | ((with_reducible refine gate_callee (f := 31) rfl ?_); refine goesL_ (some 42) rfl rfl Try.func31 (by kernel_rfl) rfl #[.agg #[.slice Ao68 t424.length co68], .int .i64 a2, .int .u32 a3] rfl argA ?_; (with_reducible refine (plinthref25_Put.calls k _ _ t424 a2 a3 t439 t442 _ ?side1 ?side2 A10.out).mono ?_); (case side1 => refine (Kd.V_reads' (e := 40) (base := w.heap.size) (ok := fun k_ => ((k_ ≠ gb422 ∧ k_ ≠ gb423) ∧ k_ ≠ gb438)) (n := t424.length) (c := co68) ?_).2.2; exact (by refine upV ?_; exact (fV1 (Kd.V_mono HO426.out (fun k_ hk => (⟨hk, hk.2⟩ : _ ∧ k_ ≠ gb438)))))); (case side2 => exact (Kd.V_reads' HO426.out).2.1); rintro e w85 ⟨v440, rfl, ho0, hb⟩; refine ⟨_, rfl, ?_⟩; replace HO426 := Aside0.mk (Kd.V_below (by refine upV ?_; exact (fV1 (Kd.V_mono HO426.out (fun k_ hk => (⟨hk, hk.2⟩ : _ ∧ k_ ≠ gb438))))) hb); replace HO429 := Aside0.mk (Kd.V_below (by refine upV ?_; exact (fV1 (Kd.V_mono HO429.out (fun k_ hk => (⟨hk, hk.2⟩ : _ ∧ k_ ≠ gb438))))) hb); replace HO436 := Aside0.mk (Kd.V_below (by refine upV ?_; exact (fV1 (Kd.V_mono HO436.out (fun k_ hk => (⟨hk, hk.2⟩ : _ ∧ k_ ≠ gb438))))) hb); have HO441 := Aside0.mk (Kd.V_lower (Kd.V_mono (ok' := fun k_ => k_ ≠ gb422 ∧ k_ ≠ gb423 ∧ k_ ≠ gb438) ho0 (fun k_ hk_ => ⟨(Kd.freshB (g := gb422) (o := .cells #[.slice Ao68 t424.length co68] 24 (0, 0)) (by refine upK ?_; refine blk_far ?_ NB422_438.out _; refine upK ?_; exact BK422.out) k_ hk_), (Kd.freshB (g := gb423) (o := .cells #[.slice Ao70 t427.length co70] 24 (0, 0)) (by refine upK ?_; refine blk_far ?_ NB423_438.out _; refine upK ?_; exact BK423.out) k_ hk_), (Kd.freshB (g := gb438) (o := .cells #[.slice Ao80 t434.length co80] 24 (0, 0)) (by refine upK ?_; refine blk_put (cs := #[.slice none 0 0]) ?_ 0 _ rfl; refine upK ?_; exact BK438.out) k_ hk_)⟩)) (below_size (upB3 HB.out GE422.out GE423.out GE438.out))); replace BK422 := Aside0.mk (blk_below (g := gb422) (o := .cells #[.slice Ao68 t424.length co68] 24 (0, 0)) (by refine upK ?_; refine blk_far ?_ NB422_438.out _; refine upK ?_; exact BK422.out) hb); replace BK423 := Aside0.mk (blk_below (g := gb423) (o := .cells #[.slice Ao70 t427.length co70] 24 (0, 0)) (by refine upK ?_; refine blk_far ?_ NB423_438.out _; refine upK ?_; exact BK423.out) hb); replace BK438 := Aside0.mk (blk_below (g := gb438) (o := .cells #[.slice Ao80 t434.length co80] 24 (0, 0)) (by refine upK ?_; refine blk_put (cs := #[.slice none 0 0]) ?_ 0 _ rfl; refine upK ?_; exact BK438.out) hb); replace HB := Aside0.mk (below_step (upB3 HB.out GE422.out GE423.out GE438.out) hb); (try clear hb); (try clear hb2); (try clear hk); (try clear hi); (try clear ho0)) | ((with_reducible refine gate_dst (N := 15) rfl ?_); refine box_event ?hg (N := 15) ?hd (cs := #[.slice none 0 0]) (t := 24) ?hr ?_; (case hd => rfl); (case hg => rfl); (case hr => first | (go_simp; done) | (go_simp; rfl)); intro gb443 hg w86 hbox hb; replace HO426 := Aside0.mk (Kd.V_below (Kd.V_elderB (upV HO426.out) gb443 (Nat.le_of_eq hg.symm)) hb); replace HO429 := Aside0.mk (Kd.V_below (Kd.V_elderB (upV HO429.out) gb443 (Nat.le_of_eq hg.symm)) hb); replace HO436 := Aside0.mk (Kd.V_below (Kd.V_elderB (upV HO436.out) gb443 (Nat.le_of_eq hg.symm)) hb); replace HO441 := Aside0.mk (Kd.V_below (Kd.V_elderB (upV HO441.out) gb443 (Nat.le_of_eq hg.symm)) hb); have BK443 := Aside0.mk (hbox); have GW443 := Aside0.mk ((by rw [hg]; exact (below_size (upB3 HB.out GE422.out GE423.out GE438.out)) : w.heap.size ≤ gb443)); have GE443 := Aside0.mk ((by rw [hg]; exact (below_size (upB3 HB.out GE422.out GE423.out GE438.out)) : w.heap.size ≤ gb443)); replace HB := Aside0.mk (below_step (upB3 HB.out GE422.out GE423.out GE438.out) hb); have NB422_443 := Aside0.mk ((by rw [hg]; exact Nat.ne_of_lt (blk_lt (upK BK422.out)) : gb422 ≠ gb443)); have NB443_422 := Aside0.mk ((by rw [hg]; exact Nat.ne_of_gt (blk_lt (upK BK422.out)) : gb443 ≠ gb422)); replace BK422 := Aside0.mk (blk_below (upK BK422.out) hb); have NB423_443 := Aside0.mk ((by rw [hg]; exact Nat.ne_of_lt (blk_lt (upK BK423.out)) : gb423 ≠ gb443)); have NB443_423 := Aside0.mk ((by rw [hg]; exact Nat.ne_of_gt (blk_lt (upK BK423.out)) : gb443 ≠ gb423)); replace BK423 := Aside0.mk (blk_below (upK BK423.out) hb); have NB438_443 := Aside0.mk ((by rw [hg]; exact Nat.ne_of_lt (blk_lt (upK BK438.out)) : gb438 ≠ gb443)); have NB443_438 := Aside0.mk ((by rw [hg]; exact Nat.ne_of_gt (blk_lt (upK BK438.out)) : gb443 ≠ gb438)); replace BK438 := Aside0.mk (blk_below (upK BK438.out) hb); clear hb hbox hg; obtain ⟨Ao87, co87, eo87⟩ := Kd.V_slice HO441.out; subst eo87; have hnb88 := NB443_422.out; have hnc88 := NB422_443.out; have hnb89 := NB443_423.out; have hnc89 := NB423_443.out; have hnb90 := NB443_438.out; have hnc90 := NB438_443.out; obtain ⟨hcz91_0, hfz91_0⟩ := cells1 BK443.out))
        have n0_ : Aside0 (Kd.V (Kd.slice 25 (Kd.int .u32)) 40 (w86.setCell ⟨gb443, 0, none⟩ (.slice Ao87 t439.length co87)) w.heap.size (fun k_ => k_ ≠ gb422 ∧ k_ ≠ gb423 ∧ k_ ≠ gb438 ∧ k_ ≠ gb443) (.slice Ao68 t424.length co68) t424) := ⟨by refine upV ?_; exact Kd.V_mono (garV1 (g := gb443) (Kd.V_mono HO426.out (fun k_ hk => (⟨hk, hk.2⟩ : _ ∧ k_ ≠ gb443))) 0 (.slice Ao87 t439.length co87)) (fun _ hk => ⟨hk.1.1.1.1, ⟨hk.1.1.1.2, ⟨hk.1.1.2, hk.1.2⟩⟩⟩)⟩
        have n1_ : Aside0 (Kd.V (Kd.slice 25 (Kd.int .u32)) 40 (w86.setCell ⟨gb443, 0, none⟩ (.slice Ao87 t439.length co87)) w.heap.size (fun k_ => k_ ≠ gb422 ∧ k_ ≠ gb423 ∧ k_ ≠ gb438 ∧ k_ ≠ gb443) (.slice Ao70 t427.length co70) t427) := ⟨by refine upV ?_; exact Kd.V_mono (garV1 (g := gb443) (Kd.V_mono HO429.out (fun k_ hk => (⟨hk, hk.2⟩ : _ ∧ k_ ≠ gb443))) 0 (.slice Ao87 t439.length co87)) (fun _ hk => ⟨hk.1.1.1.1, ⟨hk.1.1.1.2, ⟨hk.1.1.2, hk.1.2⟩⟩⟩)⟩
        have n2_ : Aside0 (Kd.V (Kd.slice 25 (Kd.int .u32)) 40 (w86.setCell ⟨gb443, 0, none⟩ (.slice Ao87 t439.length co87)) w.heap.size (fun k_ => k_ ≠ gb422 ∧ k_ ≠ gb423 ∧ k_ ≠ gb438 ∧ k_ ≠ gb443) (.slice Ao80 t434.length co80) t434) := ⟨by refine upV ?_; exact Kd.V_mono (garV1 (g := gb443) (Kd.V_mono HO436.out (fun k_ hk => (⟨hk, hk.2⟩ : _ ∧ k_ ≠ gb443))) 0 (.slice Ao87 t439.length co87)) (fun _ hk => ⟨hk.1.1.1.1, ⟨hk.1.1.1.2, ⟨hk.1.1.2, hk.1.2⟩⟩⟩)⟩
        have n3_ : Aside0 (Kd.V (Kd.slice 25 (Kd.int .u32)) 40 (w86.setCell ⟨gb443, 0, none⟩ (.slice Ao87 t439.length co87)) w.heap.size (fun k_ => k_ ≠ gb422 ∧ k_ ≠ gb423 ∧ k_ ≠ gb438 ∧ k_ ≠ gb443) (.slice Ao87 t439.length co87) t439) := ⟨by refine upV ?_; exact Kd.V_mono (garV1 (g := gb443) (Kd.V_mono HO441.out (fun k_ hk => (⟨hk, hk.2⟩ : _ ∧ k_ ≠ gb443))) 0 (.slice Ao87 t439.length co87)) (fun _ hk => ⟨hk.1.1.1, ⟨hk.1.1.2.1, ⟨hk.1.1.2.2, hk.1.2⟩⟩⟩)⟩
        have n4_ : Aside0 ((w86.setCell ⟨gb443, 0, none⟩ (.slice Ao87 t439.length co87)).heap[gb422]? = some (.cells #[.slice Ao68 t424.length co68] 24 (0, 0))) := ⟨by refine upK ?_; refine blk_far ?_ NB422_443.out _; refine upK ?_; exact BK422.out⟩
        have n5_ : Aside0 ((w86.setCell ⟨gb443, 0, none⟩ (.slice Ao87 t439.length co87)).heap[gb423]? = some (.cells #[.slice Ao70 t427.length co70] 24 (0, 0))) := ⟨by refine upK ?_; refine blk_far ?_ NB423_443.out _; refine upK ?_; exact BK423.out⟩
        have n6_ : Aside0 ((w86.setCell ⟨gb443, 0, none⟩ (.slice Ao87 t439.length co87)).heap[gb438]? = some (.cells #[.slice Ao80 t434.length co80] 24 (0, 0))) := ⟨by refine upK ?_; refine blk_far ?_ NB438_443.out _; refine upK ?_; exact BK438.out⟩
        have n7_ : Aside0 ((w86.setCell ⟨gb443, 0, none⟩ (.slice Ao87 t439.length co87)).heap[gb443]? = some (.cells #[.slice Ao87 t439.length co87] 24 (0, 0))) := ⟨by refine upK ?_; refine blk_put (cs := #[.slice none 0 0]) ?_ 0 _ rfl; refine upK ?_; exact BK443.out⟩
        have n8_ : Aside0 (Below w.heap.size w (w86.setCell ⟨gb443, 0, none⟩ (.slice Ao87 t439.length co87))) := ⟨upB4 HB.out GE422.out GE423.out GE438.out GE443.out⟩
        (try clear HO426); (try clear HO429); (try clear HO436); (try clear HO441); (try clear BK422); (try clear BK423); (try clear BK438); (try clear BK443); (try clear HB)
        generalize (w86.setCell ⟨gb443, 0, none⟩ (.slice Ao87 t439.length co87)) = w92 at n0_ n1_ n2_ n3_ n4_ n5_ n6_ n7_ n8_ ⊢
        have HO426 := n0_
        have HO429 := n1_
        have HO436 := n2_
        have HO441 := n3_
        have BK422 := n4_
        have BK423 := n5_
        have BK438 := n6_
        have BK443 := n7_
        have HB := n8_
        clear n0_ n1_ n2_ n3_ n4_ n5_ n6_ n7_ n8_
        replace HO426 := Aside0.mk (Kd.V_drew HO426.out)
        replace HO429 := Aside0.mk (Kd.V_drew HO429.out)
        replace HO436 := Aside0.mk (Kd.V_drew HO436.out)
        replace HO441 := Aside0.mk (Kd.V_drew HO441.out)
        replace BK422 := Aside0.mk (blk_drew BK422.out)
        replace BK423 := Aside0.mk (blk_drew BK423.out)
        replace BK438 := Aside0.mk (blk_drew BK438.out)
        replace BK443 := Aside0.mk (blk_drew BK443.out)
        replace HB := Aside0.mk (below_drew1 HB.out)
        refine start_ (n := 43) (S := fun w' => w'.cell? ⟨gb422, 0, none⟩ = some (.slice Ao68 t424.length co68) ∧ w'.cell? ⟨gb438, 0, none⟩ = some (.slice Ao80 t434.length co80) ∧ w'.cell? ⟨gb443, 0, none⟩ = some (.slice Ao87 t439.length co87) ∧ w'.cell? ⟨gb423, 0, none⟩ = some (.slice Ao70 t427.length co70)) (ds := []) (Array.replicate 43 false) (by kernel_rfl) rfl rfl ⟨(blk_cell BK422.out 0).trans rfl, (blk_cell BK438.out 0).trans rfl, (blk_cell BK443.out 0).trans rfl, (blk_cell BK423.out 0).trans rfl⟩ (fun hHeld => ?_); refine with_tabW plinthlaw25_TreeAsks.tab6 plinthlaw25_TreeAsks.bits6 (fun HT_ HW_ => ?_)
        generalize w92.drew = w93 at HO426 HO429 HO436 HO441 BK422 BK423 BK438 BK443 HB hHeld ⊢
        refine tM 0 45 HT_.out HW_.out hHeld ?_; refine tM 2 47 HT_.out HW_.out hHeld ?_
        refine oM 1 46 HT_.out (fun K hK => ?_)
        refine gM Try.func32 #[.agg #[.slice Ao68 t424.length co68]] ?_
        with_reducible refine (tree_Check.calls k _ _ t424 t444 _ ?side1 ?side2 A11.out).mono ?_
        (case side1 => exact upC ((Kd.V_reads' HO426.out).2.2))
        (case side2 => exact (Kd.V_reads' HO426.out).2.1)
        rintro e w94 ⟨rfl, hb⟩
        refine ⟨_, rfl, ?_⟩
        replace HO426 := Aside0.mk (Kd.V_below (upV HO426.out) hb)
        replace HO429 := Aside0.mk (Kd.V_below (upV HO429.out) hb)
        replace HO436 := Aside0.mk (Kd.V_below (upV HO436.out) hb)
        replace HO441 := Aside0.mk (Kd.V_below (upV HO441.out) hb)
        replace BK422 := Aside0.mk (blk_below (upK BK422.out) hb)
        replace BK423 := Aside0.mk (blk_below (upK BK423.out) hb)
        replace BK438 := Aside0.mk (blk_below (upK BK438.out) hb)
        replace BK443 := Aside0.mk (blk_below (upK BK443.out) hb)
        replace HB := Aside0.mk (below_step (upB4 HB.out GE422.out GE423.out GE438.out GE443.out) hb)
        (try clear hb); (try clear hb2); (try clear hk); (try clear hi)
        refine hK.out _ _ ⟨(blk_cell BK422.out 0).trans rfl, (blk_cell BK438.out 0).trans rfl, (blk_cell BK443.out 0).trans rfl, (blk_cell BK423.out 0).trans rfl⟩ (fun hHeld => ?_)
        clear hK K
        refine nM 46 ?_
        refine oM 3 48 HT_.out (fun K hK => ?_)
        refine gM Try.func33 #[.agg #[.slice Ao68 t424.length co68]] ?_
        with_reducible refine (plinthref25_Check.calls k _ _ t424 t445 _ ?side1 ?side2 A12.out).mono ?_
        (case side1 => exact upC ((Kd.V_reads' HO426.out).2.2))
        (case side2 => exact (Kd.V_reads' HO426.out).2.1)
        rintro e w95 ⟨rfl, hb⟩
        refine ⟨_, rfl, ?_⟩
        replace HO426 := Aside0.mk (Kd.V_below (upV HO426.out) hb)
        replace HO429 := Aside0.mk (Kd.V_below (upV HO429.out) hb)
        replace HO436 := Aside0.mk (Kd.V_below (upV HO436.out) hb)
        replace HO441 := Aside0.mk (Kd.V_below (upV HO441.out) hb)
        replace BK422 := Aside0.mk (blk_below (upK BK422.out) hb)
        replace BK423 := Aside0.mk (blk_below (upK BK423.out) hb)
        replace BK438 := Aside0.mk (blk_below (upK BK438.out) hb)
        replace BK443 := Aside0.mk (blk_below (upK BK443.out) hb)
        replace HB := Aside0.mk (below_step (upB4 HB.out GE422.out GE423.out GE438.out GE443.out) hb)
        (try clear hb); (try clear hb2); (try clear hk); (try clear hi)
        refine hK.out _ _ ⟨(blk_cell BK422.out 0).trans rfl, (blk_cell BK438.out 0).trans rfl, (blk_cell BK443.out 0).trans rfl, (blk_cell BK423.out 0).trans rfl⟩ (fun hHeld => ?_)
        clear hK K
        refine nM 48 ?_; refine pM 4 49 HT_.out ?_; refine pM 5 50 HT_.out ?_; refine pM 6 51 HT_.out ?_; refine pM 7 52 HT_.out ?_; refine pM 8 53 HT_.out ?_; refine pM 9 54 HT_.out ?_; refine pM 10 55 HT_.out ?_; refine pM 11 56 HT_.out ?_; refine pM 12 57 HT_.out ?_; refine pM 13 58 HT_.out ?_; refine pM 14 59 HT_.out ?_; refine pM 15 60 HT_.out ?_; refine tM 16 61 HT_.out HW_.out hHeld ?_; refine tM 17 62 HT_.out HW_.out hHeld ?_
        refine oM 18 63 HT_.out (fun K hK => ?_)
        refine gM Try.func27 #[.agg #[.slice Ao80 t434.length co80], .agg #[.slice Ao87 t439.length co87]] ?_
        with_reducible refine (plinthref25_Same.calls k _ _ t434 _ _ t439 true _ ?side1 ?side2 ?side3 ?side4 A16.out).mono ?_
        (case side1 => exact upC ((Kd.V_reads' HO436.out).2.2))
        (case side2 => exact (Kd.V_reads' HO436.out).2.1)
        (case side3 => exact upC ((Kd.V_reads' HO441.out).2.2))
        (case side4 => exact (Kd.V_reads' HO441.out).2.1)
        rintro e w96 ⟨rfl, hb⟩
        refine ⟨_, rfl, ?_⟩
        replace HO426 := Aside0.mk (Kd.V_below (upV HO426.out) hb)
        replace HO429 := Aside0.mk (Kd.V_below (upV HO429.out) hb)
        replace HO436 := Aside0.mk (Kd.V_below (upV HO436.out) hb)
        replace HO441 := Aside0.mk (Kd.V_below (upV HO441.out) hb)
        replace BK422 := Aside0.mk (blk_below (upK BK422.out) hb)
        replace BK423 := Aside0.mk (blk_below (upK BK423.out) hb)
        replace BK438 := Aside0.mk (blk_below (upK BK438.out) hb)
        replace BK443 := Aside0.mk (blk_below (upK BK443.out) hb)
        replace HB := Aside0.mk (below_step (upB4 HB.out GE422.out GE423.out GE438.out GE443.out) hb)
        (try clear hb); (try clear hb2); (try clear hk); (try clear hi)
        refine hK.out _ _ ⟨(blk_cell BK422.out 0).trans rfl, (blk_cell BK438.out 0).trans rfl, (blk_cell BK443.out 0).trans rfl, (blk_cell BK423.out 0).trans rfl⟩ (fun hHeld => ?_)
        clear hK K
        refine nM 63 ?_; refine pM 19 64 HT_.out ?_; refine pM 20 65 HT_.out ?_; refine pM 21 66 HT_.out ?_; refine pM 22 67 HT_.out ?_; refine pM 23 68 HT_.out ?_; refine pM 24 69 HT_.out ?_; refine pM 25 70 HT_.out ?_; refine tM 26 71 HT_.out HW_.out hHeld ?_; refine tM 27 72 HT_.out HW_.out hHeld ?_; refine tM 29 74 HT_.out HW_.out hHeld ?_; refine tM 30 75 HT_.out HW_.out hHeld ?_
        refine oM 28 73 HT_.out (fun K hK => ?_)
        refine gM Try.func34 #[.agg #[.slice Ao68 t424.length co68], .agg #[.slice Ao70 t427.length co70]] ?_
        with_reducible refine (tree_Same.calls k _ _ t424 _ _ t427 t447 _ ?side1 ?side2 ?side3 ?side4 A19.out).mono ?_
        (case side1 => exact upC ((Kd.V_reads' HO426.out).2.2))
        (case side2 => exact (Kd.V_reads' HO426.out).2.1)
        (case side3 => exact upC ((Kd.V_reads' HO429.out).2.2))
        (case side4 => exact (Kd.V_reads' HO429.out).2.1)
        rintro e w97 ⟨rfl, hb⟩
        refine ⟨_, rfl, ?_⟩
        replace HO426 := Aside0.mk (Kd.V_below (upV HO426.out) hb)
        replace HO429 := Aside0.mk (Kd.V_below (upV HO429.out) hb)
        replace HO436 := Aside0.mk (Kd.V_below (upV HO436.out) hb)
        replace HO441 := Aside0.mk (Kd.V_below (upV HO441.out) hb)
        replace BK422 := Aside0.mk (blk_below (upK BK422.out) hb)
        replace BK423 := Aside0.mk (blk_below (upK BK423.out) hb)
        replace BK438 := Aside0.mk (blk_below (upK BK438.out) hb)
        replace BK443 := Aside0.mk (blk_below (upK BK443.out) hb)
        replace HB := Aside0.mk (below_step (upB4 HB.out GE422.out GE423.out GE438.out GE443.out) hb)
        (try clear hb); (try clear hb2); (try clear hk); (try clear hi)
        refine hK.out _ _ ⟨(blk_cell BK422.out 0).trans rfl, (blk_cell BK438.out 0).trans rfl, (blk_cell BK443.out 0).trans rfl, (blk_cell BK423.out 0).trans rfl⟩ (fun hHeld => ?_)
        clear hK K
        refine nM 73 ?_
        refine oM 31 76 HT_.out (fun K hK => ?_)
        refine gM Try.func27 #[.agg #[.slice Ao68 t424.length co68], .agg #[.slice Ao70 t427.length co70]] ?_
        with_reducible refine (plinthref25_Same.calls k _ _ t424 _ _ t427 t448 _ ?side1 ?side2 ?side3 ?side4 A20.out).mono ?_
        (case side1 => exact upC ((Kd.V_reads' HO426.out).2.2))
        (case side2 => exact (Kd.V_reads' HO426.out).2.1)
        (case side3 => exact upC ((Kd.V_reads' HO429.out).2.2))
        (case side4 => exact (Kd.V_reads' HO429.out).2.1)
        rintro e w98 ⟨rfl, hb⟩
        refine ⟨_, rfl, ?_⟩
        replace HO426 := Aside0.mk (Kd.V_below (upV HO426.out) hb)
        replace HO429 := Aside0.mk (Kd.V_below (upV HO429.out) hb)
        replace HO436 := Aside0.mk (Kd.V_below (upV HO436.out) hb)
        replace HO441 := Aside0.mk (Kd.V_below (upV HO441.out) hb)
        replace BK422 := Aside0.mk (blk_below (upK BK422.out) hb)
        replace BK423 := Aside0.mk (blk_below (upK BK423.out) hb)
        replace BK438 := Aside0.mk (blk_below (upK BK438.out) hb)
        replace BK443 := Aside0.mk (blk_below (upK BK443.out) hb)
        replace HB := Aside0.mk (below_step (upB4 HB.out GE422.out GE423.out GE438.out GE443.out) hb)
        (try clear hb); (try clear hb2); (try clear hk); (try clear hi)
        refine hK.out _ _ ⟨(blk_cell BK422.out 0).trans rfl, (blk_cell BK438.out 0).trans rfl, (blk_cell BK443.out 0).trans rfl, (blk_cell BK423.out 0).trans rfl⟩ (fun hHeld => ?_)
        clear hK K
        refine nM 76 ?_; refine pM 32 77 HT_.out ?_; refine pM 33 78 HT_.out ?_; refine pM 34 79 HT_.out ?_; refine tM 35 80 HT_.out HW_.out hHeld ?_; refine tM 36 81 HT_.out HW_.out hHeld ?_
        refine oM 37 82 HT_.out (fun K hK => ?_)
        refine gM Try.func34 #[.agg #[.slice Ao68 t424.length co68], .agg #[.slice Ao68 t424.length co68]] ?_
        with_reducible refine (tree_Same.calls k _ _ t424 _ _ t424 false _ ?side1 ?side2 ?side3 ?side4 A22.out).mono ?_
        (case side1 => exact upC ((Kd.V_reads' HO426.out).2.2))
        (case side2 => exact (Kd.V_reads' HO426.out).2.1)
        (case side3 => exact upC ((Kd.V_reads' HO426.out).2.2))
        (case side4 => exact (Kd.V_reads' HO426.out).2.1)
        rintro e w99 ⟨rfl, hb⟩
        refine ⟨_, rfl, ?_⟩
        replace HO426 := Aside0.mk (Kd.V_below (upV HO426.out) hb)
        replace HO429 := Aside0.mk (Kd.V_below (upV HO429.out) hb)
        replace HO436 := Aside0.mk (Kd.V_below (upV HO436.out) hb)
        replace HO441 := Aside0.mk (Kd.V_below (upV HO441.out) hb)
        replace BK422 := Aside0.mk (blk_below (upK BK422.out) hb)
        replace BK423 := Aside0.mk (blk_below (upK BK423.out) hb)
        replace BK438 := Aside0.mk (blk_below (upK BK438.out) hb)
        replace BK443 := Aside0.mk (blk_below (upK BK443.out) hb)
        replace HB := Aside0.mk (below_step (upB4 HB.out GE422.out GE423.out GE438.out GE443.out) hb)
        (try clear hb); (try clear hb2); (try clear hk); (try clear hi)
        refine hK.out _ _ ⟨(blk_cell BK422.out 0).trans rfl, (blk_cell BK438.out 0).trans rfl, (blk_cell BK443.out 0).trans rfl, (blk_cell BK423.out 0).trans rfl⟩ (fun hHeld => ?_)
        clear hK K
        refine nM 82 ?_; refine pM 38 83 HT_.out ?_; refine pM 39 84 HT_.out ?_; refine uM 40 85 HT_.out ?_; refine pM 41 86 HT_.out ?_; refine pM 42 8 HT_.out ?_
        refine done_ (done_of HT_.out (by kernel_rfl)) ?_
        try go_wp2
        go_ret
        exact ⟨by first | rfl | (simp [errW_none, errW_some] <;> rfl) | (simp [*, errW_none, errW_some] <;> rfl), upB4 HB.out GE422.out GE423.out GE438.out GE443.out⟩
      ·rw [if_neg c21] at H
       exact absurd (H.trans (congrArg some hr_.out)) (by simp)
     ·rw [if_neg c18] at H
      exact absurd (H.trans (congrArg some hr_.out)) (by simp)
    ·replace c17 := Bool.eq_false_iff.mpr c17
     subst c17
     have H1 : (some false) = some r := by rw [if_neg (show ¬ (false = true) by decide)] at H; exact H
     clear H
     have H := H1
     clear H1
     obtain rfl := Option.some.inj H
     go_enter Try.func6, Try.ntmps6
     try go_wp2_with (first | ((with_reducible refine gate_dst (N := 4) rfl ?_); refine box_event ?hg (N := 4) ?hd (cs := #[.slice A0_0 l0_0.length c0_0]) (t := 24) ?hr ?_; (case hd => rfl); (case hg => rfl); (case hr => first | (go_simp; done) | (go_simp; rfl)); intro gb422 hg w170 hbox hb; have BK422 := Aside0.mk (hbox); have GW422 := Aside0.mk ((by rw [hg]; exact (below_size (upB0 HB.out)) : w.heap.size ≤ gb422)); have GE422 := Aside0.mk ((by rw [hg]; exact (below_size (upB0 HB.out)) : w.heap.size ≤ gb422)); replace HB := Aside0.mk (below_step (upB0 HB.out) hb); clear hb hbox hg) | ((with_reducible refine gate_dst (N := 5) rfl ?_); refine box_event ?hg (N := 5) ?hd (cs := #[.slice A1_0 l1_0.length c1_0]) (t := 24) ?hr ?_; (case hd => rfl); (case hg => rfl); (case hr => first | (go_simp; done) | (go_simp; rfl)); intro gb423 hg w171 hbox hb; have BK423 := Aside0.mk (hbox); have GW423 := Aside0.mk ((by rw [hg]; exact (below_size (upB1 HB.out GE422.out)) : w.heap.size ≤ gb423)); have GE423 := Aside0.mk ((by rw [hg]; exact (below_size (upB1 HB.out GE422.out)) : w.heap.size ≤ gb423)); replace HB := Aside0.mk (below_step (upB1 HB.out GE422.out) hb); have NB422_423 := Aside0.mk ((by rw [hg]; exact Nat.ne_of_lt (blk_lt (upK BK422.out)) : gb422 ≠ gb423)); have NB423_422 := Aside0.mk ((by rw [hg]; exact Nat.ne_of_gt (blk_lt (upK BK422.out)) : gb423 ≠ gb422)); replace BK422 := Aside0.mk (blk_below (upK BK422.out) hb); clear hb hbox hg))
     replace BK422 := Aside0.mk (blk_drew BK422.out)
     replace BK423 := Aside0.mk (blk_drew BK423.out)
     replace HB := Aside0.mk (below_drew1 HB.out)
     refine start_ (n := 6) (S := fun w' => w'.cell? ⟨gb422, 0, none⟩ = some (.slice A0_0 l0_0.length c0_0) ∧ w'.cell? ⟨gb423, 0, none⟩ = some (.slice A1_0 l1_0.length c1_0)) (ds := [4, 5]) (Array.replicate 6 false) (by kernel_rfl) rfl rfl ⟨(blk_cell BK422.out 0).trans rfl, (blk_cell BK423.out 0).trans rfl⟩ (fun hHeld => ?_)
     generalize w171.drew = w172 at BK422 BK423 HB hHeld ⊢
     refine take_ (i := 0) (N := some 17) (v := ?_) (a' := ?_) #[true, false, false, false, false, false] rfl rfl (by kernel_rfl) (fun _ _ _ h => h) (Or.inl ⟨by rfl, ?_⟩) hHeld ?_ ?_
     rotate_left
     ·rintro w' ⟨s0, s1⟩
      go_simp
      with_reducible rfl
     rotate_left
     ·simp only [Act.put, List.setIfInBounds_toArray, List.set_cons_zero, List.set_cons_succ, i64_w, i32_w]
      rfl
     refine take_ (i := 2) (N := some 19) (v := ?_) (a' := ?_) #[true, false, true, false, false, false] rfl rfl (by kernel_rfl) (fun _ _ _ h => h) (Or.inl ⟨by rfl, ?_⟩) hHeld ?_ ?_
     rotate_left
     ·rintro w' ⟨s0, s1⟩
      go_simp
      with_reducible rfl
     rotate_left
     ·simp only [Act.put, List.setIfInBounds_toArray, List.set_cons_zero, List.set_cons_succ, i64_w, i32_w]
      rfl
     refine one_ (i := 1) (N := some 18) #[true, true, true, false, false, false] rfl rfl (by kernel_rfl) (by decide) (fun K hK => ?_)
     refine gM Try.func12 #[.agg #[.slice A0_0 l0_0.length c0_0]] ?_
     with_reducible refine (plinthlaw25_cut.calls k (fun k_ => k_ < w.heap.size) _ _ l0_0 t424 _ ?side1 A5.out).mono ?_
     (case side1 => exact Kd.V_mk HC0_0.out (Kd.F_below (Kd.C_F (Kd.heap_slice 25 (Kd.heap_int .u32)) HR0_0.out) (upB2 HB.out GE422.out GE423.out)))
     rintro e w173 ⟨v425, rfl, ho0, hb⟩
     refine ⟨_, rfl, ?_⟩
     have HO426 := Aside0.mk (Kd.V_lower (Kd.V_mono (ok' := fun k_ => k_ ≠ gb422 ∧ k_ ≠ gb423) ho0 (fun k_ hk_ => ⟨Or.elim hk_ (fun hs_ => fun e_ => Nat.not_le.2 hs_ (by rw [e_]; exact GW422.out)) (fun hn_ => (Kd.freshB (upK BK422.out) k_ hn_)), Or.elim hk_ (fun hs_ => fun e_ => Nat.not_le.2 hs_ (by rw [e_]; exact GW423.out)) (fun hn_ => (Kd.freshB (upK BK423.out) k_ hn_))⟩)) (below_size (upB2 HB.out GE422.out GE423.out)))
     replace BK422 := Aside0.mk (blk_below (upK BK422.out) hb)
     replace BK423 := Aside0.mk (blk_below (upK BK423.out) hb)
     replace HB := Aside0.mk (below_step (upB2 HB.out GE422.out GE423.out) hb)
     (try clear hb); (try clear hb2); (try clear hk); (try clear hi); (try clear ho0)
     refine hK.out _ _ ⟨(blk_cell BK422.out 0).trans rfl, (blk_cell BK423.out 0).trans rfl⟩ (fun hHeld => ?_)
     clear hK K
     refine nM 18 ?_
     refine one_ (i := 3) (N := some 20) #[true, true, true, true, false, false] rfl rfl (by kernel_rfl) (by decide) (fun K hK => ?_)
     refine gM Try.func12 #[.agg #[.slice A1_0 l1_0.length c1_0]] ?_
     with_reducible refine (plinthlaw25_cut.calls k (fun k_ => k_ < w.heap.size) _ _ l1_0 t427 _ ?side1 A6.out).mono ?_
     (case side1 => exact Kd.V_mk HC1_0.out (Kd.F_below (Kd.C_F (Kd.heap_slice 25 (Kd.heap_int .u32)) HR1_0.out) (upB2 HB.out GE422.out GE423.out)))
     rintro e w174 ⟨v428, rfl, ho0, hb⟩
     refine ⟨_, rfl, ?_⟩
     replace HO426 := Aside0.mk (Kd.V_below (upV HO426.out) hb)
     have HO429 := Aside0.mk (Kd.V_lower (Kd.V_mono (ok' := fun k_ => k_ ≠ gb422 ∧ k_ ≠ gb423) ho0 (fun k_ hk_ => ⟨Or.elim hk_ (fun hs_ => fun e_ => Nat.not_le.2 hs_ (by rw [e_]; exact GW422.out)) (fun hn_ => (Kd.freshB (upK BK422.out) k_ hn_)), Or.elim hk_ (fun hs_ => fun e_ => Nat.not_le.2 hs_ (by rw [e_]; exact GW423.out)) (fun hn_ => (Kd.freshB (upK BK423.out) k_ hn_))⟩)) (below_size (upB2 HB.out GE422.out GE423.out)))
     replace BK422 := Aside0.mk (blk_below (upK BK422.out) hb)
     replace BK423 := Aside0.mk (blk_below (upK BK423.out) hb)
     replace HB := Aside0.mk (below_step (upB2 HB.out GE422.out GE423.out) hb)
     (try clear hb); (try clear hb2); (try clear hk); (try clear hi); (try clear ho0)
     obtain ⟨Ao175, co175, eo175⟩ := Kd.V_slice HO426.out
     (first | subst eo175 | (injection eo175 with f1_ f2_ f3_; have f4_ := f1_.symm; have f5_ := f3_.symm; clear f1_ f2_ f3_; subst f4_; subst f5_))
     obtain ⟨Ao177, co177, eo177⟩ := Kd.V_slice HO429.out
     (first | subst eo177 | (injection eo177 with f1_ f2_ f3_; have f4_ := f1_.symm; have f5_ := f3_.symm; clear f1_ f2_ f3_; subst f4_; subst f5_))
     refine hK.out _ _ ⟨(blk_cell BK422.out 0).trans rfl, (blk_cell BK423.out 0).trans rfl⟩ (fun hHeld => ?_)
     clear hK K
     refine nM 20 ?_
     refine last_ (i := 4) (N := none) #[true, true, true, true, true, false] rfl rfl (by kernel_rfl) (by decide) (fun K hK => ?_)
     have hs176 : w174.cell? ⟨gb422, 0, none⟩ = some (.slice A0_0 l0_0.length c0_0) := (blk_cell BK422.out 0).trans rfl
     have hfs176 := blk_frozen BK422.out 0
     have hns176_1 := NB423_422.out
     have hms176_1 := NB422_423.out
     refine skip_ (w1 := ?_) (by rfl) rfl ?_ ?_
     rotate_left
     ·go_simp
      rfl
     refine hK.out _ _ ?_
     clear hK K
     refine last_ (i := 5) (N := none) #[true, true, true, true, true, true] rfl rfl (by kernel_rfl) (by decide) (fun K hK => ?_)
     have hs178 : w174.cell? ⟨gb423, 0, none⟩ = some (.slice A1_0 l1_0.length c1_0) := (blk_cell BK423.out 0).trans rfl
     have hfs178 := blk_frozen BK423.out 0
     have hns178_0 := NB422_423.out
     have hms178_0 := NB423_422.out
     refine skip_ (w1 := ?_) (by rfl) rfl ?_ ?_
     rotate_left
     ·go_simp
      rfl
     refine hK.out _ _ ?_
     clear hK K
     refine done_ (by kernel_rfl) ?_
     have hnb179 := NB422_423.out
     have hnc179 := NB423_422.out
     obtain ⟨hcz180_0, hfz180_0⟩ := cells1 BK422.out
     try go_wp2_with (first | ((with_reducible refine gate_callee (f := 28) rfl ?_); refine goesL_ (some 23) rfl rfl Try.func28 (by kernel_rfl) rfl #[.agg #[.slice Ao175 t424.length co175]] rfl argA ?_; (with_reducible refine (tree_Root.calls k _ _ t424 t430 t431 _ ?side1 ?side2 A7.out).mono ?_); (case side1 => refine (Kd.V_reads' (e := 40) (base := w.heap.size) (ok := fun k_ => (k_ ≠ gb422 ∧ k_ ≠ gb423)) (n := t424.length) (c := co175) ?_).2.2; exact (by refine upV ?_; exact (Kd.V_mono (farV1 (g := gb423) (Kd.V_far (p := ⟨gb422, 0, none⟩) (Kd.V_mono (Kd.V_mono HO426.out (fun k_ hk => (⟨hk, hk.1⟩ : _ ∧ k_ ≠ gb422))) (fun k_ hk => (⟨hk, hk.1.2⟩ : _ ∧ k_ ≠ gb423))) (fun _ hk => hk.1.2) (.slice Ao175 t424.length co175)) 0 (.slice Ao177 t427.length co177)) (fun _ h_ => h_.1)))); (case side2 => exact (Kd.V_reads' HO426.out).2.1); rintro e w181 ⟨rfl, hb⟩; refine ⟨_, rfl, ?_⟩; replace HO426 := Aside0.mk (Kd.V_below (by refine upV ?_; exact (Kd.V_mono (farV1 (g := gb423) (Kd.V_far (p := ⟨gb422, 0, none⟩) (Kd.V_mono (Kd.V_mono HO426.out (fun k_ hk => (⟨hk, hk.1⟩ : _ ∧ k_ ≠ gb422))) (fun k_ hk => (⟨hk, hk.1.2⟩ : _ ∧ k_ ≠ gb423))) (fun _ hk => hk.1.2) (.slice Ao175 t424.length co175)) 0 (.slice Ao177 t427.length co177)) (fun _ h_ => h_.1))) hb); replace HO429 := Aside0.mk (Kd.V_below (by refine upV ?_; exact (Kd.V_mono (farV1 (g := gb423) (Kd.V_far (p := ⟨gb422, 0, none⟩) (Kd.V_mono (Kd.V_mono HO429.out (fun k_ hk => (⟨hk, hk.1⟩ : _ ∧ k_ ≠ gb422))) (fun k_ hk => (⟨hk, hk.1.2⟩ : _ ∧ k_ ≠ gb423))) (fun _ hk => hk.1.2) (.slice Ao175 t424.length co175)) 0 (.slice Ao177 t427.length co177)) (fun _ h_ => h_.1))) hb); replace BK422 := Aside0.mk (blk_below (g := gb422) (o := .cells #[.slice Ao175 t424.length co175] 24 (0, 0)) (by refine upK ?_; refine blk_far ?_ NB422_423.out _; refine upK ?_; refine blk_put (cs := #[.slice A0_0 l0_0.length c0_0]) ?_ 0 _ rfl; refine upK ?_; exact BK422.out) hb); replace BK423 := Aside0.mk (blk_below (g := gb423) (o := .cells #[.slice Ao177 t427.length co177] 24 (0, 0)) (by refine upK ?_; refine blk_put (cs := #[.slice A1_0 l1_0.length c1_0]) ?_ 0 _ rfl; refine upK ?_; refine blk_far ?_ NB423_422.out _; refine upK ?_; exact BK423.out) hb); replace HB := Aside0.mk (below_step (upB2 HB.out GE422.out GE423.out) hb); (try clear hb); (try clear hb2); (try clear hk); (try clear hi); obtain ⟨hcz182_0, hfz182_0⟩ := cells1 BK422.out) | ((with_reducible refine gate_callee (f := 29) rfl ?_); refine goesL_ (some 28) rfl rfl Try.func29 (by kernel_rfl) rfl #[.agg #[.slice Ao175 t424.length co175]] rfl argA ?_; (with_reducible refine (plinthref25_Root.calls k _ _ t424 t432 t433 _ ?side1 ?side2 A8.out).mono ?_); (case side1 => exact upC ((Kd.V_reads' HO426.out).2.2)); (case side2 => exact (Kd.V_reads' HO426.out).2.1); rintro e w183 ⟨rfl, hb⟩; refine ⟨_, rfl, ?_⟩; replace HO426 := Aside0.mk (Kd.V_below (upV HO426.out) hb); replace HO429 := Aside0.mk (Kd.V_below (upV HO429.out) hb); replace BK422 := Aside0.mk (blk_below (upK BK422.out) hb); replace BK423 := Aside0.mk (blk_below (upK BK423.out) hb); replace HB := Aside0.mk (below_step (upB2 HB.out GE422.out GE423.out) hb); (try clear hb); (try clear hb2); (try clear hk); (try clear hi); obtain ⟨hcz184_0, hfz184_0⟩ := cells1 BK422.out) | ((with_reducible refine gate_callee (f := 30) rfl ?_); refine goesL_ (some 35) rfl rfl Try.func30 (by kernel_rfl) rfl #[.agg #[.slice Ao175 t424.length co175], .int .i64 a2, .int .u32 a3] rfl argA ?_; (with_reducible refine (tree_Put.calls k _ _ t424 a2 a3 t434 t437 _ ?side1 ?side2 A9.out).mono ?_); (case side1 => exact upC ((Kd.V_reads' HO426.out).2.2)); (case side2 => exact (Kd.V_reads' HO426.out).2.1); rintro e w185 ⟨v435, rfl, ho0, hb⟩; refine ⟨_, rfl, ?_⟩; replace HO426 := Aside0.mk (Kd.V_below (upV HO426.out) hb); replace HO429 := Aside0.mk (Kd.V_below (upV HO429.out) hb); have HO436 := Aside0.mk (Kd.V_lower (Kd.V_mono (ok' := fun k_ => k_ ≠ gb422 ∧ k_ ≠ gb423) ho0 (fun k_ hk_ => ⟨(Kd.freshB (upK BK422.out) k_ hk_), (Kd.freshB (upK BK423.out) k_ hk_)⟩)) (below_size (upB2 HB.out GE422.out GE423.out))); replace BK422 := Aside0.mk (blk_below (upK BK422.out) hb); replace BK423 := Aside0.mk (blk_below (upK BK423.out) hb); replace HB := Aside0.mk (below_step (upB2 HB.out GE422.out GE423.out) hb); (try clear hb); (try clear hb2); (try clear hk); (try clear hi); (try clear ho0)) | ((with_reducible refine gate_dst (N := 13) rfl ?_); refine box_event ?hg (N := 13) ?hd (cs := #[.slice none 0 0]) (t := 24) ?hr ?_; (case hd => rfl); (case hg => rfl); (case hr => first | (go_simp; done) | (go_simp; rfl)); intro gb438 hg w186 hbox hb; replace HO426 := Aside0.mk (Kd.V_below (Kd.V_elderB (upV HO426.out) gb438 (Nat.le_of_eq hg.symm)) hb); replace HO429 := Aside0.mk (Kd.V_below (Kd.V_elderB (upV HO429.out) gb438 (Nat.le_of_eq hg.symm)) hb); replace HO436 := Aside0.mk (Kd.V_below (Kd.V_elderB (upV HO436.out) gb438 (Nat.le_of_eq hg.symm)) hb); have BK438 := Aside0.mk (hbox); have GW438 := Aside0.mk ((by rw [hg]; exact (below_size (upB2 HB.out GE422.out GE423.out)) : w.heap.size ≤ gb438)); have GE438 := Aside0.mk ((by rw [hg]; exact (below_size (upB2 HB.out GE422.out GE423.out)) : w.heap.size ≤ gb438)); replace HB := Aside0.mk (below_step (upB2 HB.out GE422.out GE423.out) hb); have NB422_438 := Aside0.mk ((by rw [hg]; exact Nat.ne_of_lt (blk_lt (upK BK422.out)) : gb422 ≠ gb438)); have NB438_422 := Aside0.mk ((by rw [hg]; exact Nat.ne_of_gt (blk_lt (upK BK422.out)) : gb438 ≠ gb422)); replace BK422 := Aside0.mk (blk_below (upK BK422.out) hb); have NB423_438 := Aside0.mk ((by rw [hg]; exact Nat.ne_of_lt (blk_lt (upK BK423.out)) : gb423 ≠ gb438)); have NB438_423 := Aside0.mk ((by rw [hg]; exact Nat.ne_of_gt (blk_lt (upK BK423.out)) : gb438 ≠ gb423)); replace BK423 := Aside0.mk (blk_below (upK BK423.out) hb); clear hb hbox hg; obtain ⟨Ao187, co187, eo187⟩ := Kd.V_slice HO436.out; subst eo187; have hnb188 := NB438_422.out; have hnc188 := NB422_438.out; have hnb189 := NB438_423.out; have hnc189 := NB423_438.out; obtain ⟨hcz190_0, hfz190_0⟩ := cells1 BK438.out; obtain ⟨hcz191_0, hfz191_0⟩ := cells1 BK422.out) | ((with_reducible refine gate_callee (f := 31) rfl ?_); refine goesL_ (some 42) rfl rfl Try.func31 (by kernel_rfl) rfl #[.agg #[.slice Ao175 t424.length co175], .int .i64 a2, .int .u32 a3] rfl argA ?_; (with_reducible refine (plinthref25_Put.calls k _ _ t424 a2 a3 t439 t442 _ ?side1 ?side2 A10.out).mono ?_); (case side1 => refine (Kd.V_reads' (e := 40) (base := w.heap.size) (ok := fun k_ => ((k_ ≠ gb422 ∧ k_ ≠ gb423) ∧ k_ ≠ gb438)) (n := t424.length) (c := co175) ?_).2.2; exact (by refine upV ?_; exact (fV1 (Kd.V_mono HO426.out (fun k_ hk => (⟨hk, hk.2⟩ : _ ∧ k_ ≠ gb438)))))); (case side2 => exact (Kd.V_reads' HO426.out).2.1); rintro e w192 ⟨v440, rfl, ho0, hb⟩; refine ⟨_, rfl, ?_⟩; replace HO426 := Aside0.mk (Kd.V_below (by refine upV ?_; exact (fV1 (Kd.V_mono HO426.out (fun k_ hk => (⟨hk, hk.2⟩ : _ ∧ k_ ≠ gb438))))) hb); replace HO429 := Aside0.mk (Kd.V_below (by refine upV ?_; exact (fV1 (Kd.V_mono HO429.out (fun k_ hk => (⟨hk, hk.2⟩ : _ ∧ k_ ≠ gb438))))) hb); replace HO436 := Aside0.mk (Kd.V_below (by refine upV ?_; exact (fV1 (Kd.V_mono HO436.out (fun k_ hk => (⟨hk, hk.2⟩ : _ ∧ k_ ≠ gb438))))) hb); have HO441 := Aside0.mk (Kd.V_lower (Kd.V_mono (ok' := fun k_ => k_ ≠ gb422 ∧ k_ ≠ gb423 ∧ k_ ≠ gb438) ho0 (fun k_ hk_ => ⟨(Kd.freshB (g := gb422) (o := .cells #[.slice Ao175 t424.length co175] 24 (0, 0)) (by refine upK ?_; refine blk_far ?_ NB422_438.out _; refine upK ?_; exact BK422.out) k_ hk_), (Kd.freshB (g := gb423) (o := .cells #[.slice Ao177 t427.length co177] 24 (0, 0)) (by refine upK ?_; refine blk_far ?_ NB423_438.out _; refine upK ?_; exact BK423.out) k_ hk_), (Kd.freshB (g := gb438) (o := .cells #[.slice Ao187 t434.length co187] 24 (0, 0)) (by refine upK ?_; refine blk_put (cs := #[.slice none 0 0]) ?_ 0 _ rfl; refine upK ?_; exact BK438.out) k_ hk_)⟩)) (below_size (upB3 HB.out GE422.out GE423.out GE438.out))); replace BK422 := Aside0.mk (blk_below (g := gb422) (o := .cells #[.slice Ao175 t424.length co175] 24 (0, 0)) (by refine upK ?_; refine blk_far ?_ NB422_438.out _; refine upK ?_; exact BK422.out) hb); replace BK423 := Aside0.mk (blk_below (g := gb423) (o := .cells #[.slice Ao177 t427.length co177] 24 (0, 0)) (by refine upK ?_; refine blk_far ?_ NB423_438.out _; refine upK ?_; exact BK423.out) hb); replace BK438 := Aside0.mk (blk_below (g := gb438) (o := .cells #[.slice Ao187 t434.length co187] 24 (0, 0)) (by refine upK ?_; refine blk_put (cs := #[.slice none 0 0]) ?_ 0 _ rfl; refine upK ?_; exact BK438.out) hb); replace HB := Aside0.mk (below_step (upB3 HB.out GE422.out GE423.out GE438.out) hb); (try clear hb); (try clear hb2); (try clear hk); (try clear hi); (try clear ho0)) | ((with_reducible refine gate_dst (N := 15) rfl ?_); refine box_event ?hg (N := 15) ?hd (cs := #[.slice none 0 0]) (t := 24) ?hr ?_; (case hd => rfl); (case hg => rfl); (case hr => first | (go_simp; done) | (go_simp; rfl)); intro gb443 hg w193 hbox hb; replace HO426 := Aside0.mk (Kd.V_below (Kd.V_elderB (upV HO426.out) gb443 (Nat.le_of_eq hg.symm)) hb); replace HO429 := Aside0.mk (Kd.V_below (Kd.V_elderB (upV HO429.out) gb443 (Nat.le_of_eq hg.symm)) hb); replace HO436 := Aside0.mk (Kd.V_below (Kd.V_elderB (upV HO436.out) gb443 (Nat.le_of_eq hg.symm)) hb); replace HO441 := Aside0.mk (Kd.V_below (Kd.V_elderB (upV HO441.out) gb443 (Nat.le_of_eq hg.symm)) hb); have BK443 := Aside0.mk (hbox); have GW443 := Aside0.mk ((by rw [hg]; exact (below_size (upB3 HB.out GE422.out GE423.out GE438.out)) : w.heap.size ≤ gb443)); have GE443 := Aside0.mk ((by rw [hg]; exact (below_size (upB3 HB.out GE422.out GE423.out GE438.out)) : w.heap.size ≤ gb443)); replace HB := Aside0.mk (below_step (upB3 HB.out GE422.out GE423.out GE438.out) hb); have NB422_443 := Aside0.mk ((by rw [hg]; exact Nat.ne_of_lt (blk_lt (upK BK422.out)) : gb422 ≠ gb443)); have NB443_422 := Aside0.mk ((by rw [hg]; exact Nat.ne_of_gt (blk_lt (upK BK422.out)) : gb443 ≠ gb422)); replace BK422 := Aside0.mk (blk_below (upK BK422.out) hb); have NB423_443 := Aside0.mk ((by rw [hg]; exact Nat.ne_of_lt (blk_lt (upK BK423.out)) : gb423 ≠ gb443)); have NB443_423 := Aside0.mk ((by rw [hg]; exact Nat.ne_of_gt (blk_lt (upK BK423.out)) : gb443 ≠ gb423)); replace BK423 := Aside0.mk (blk_below (upK BK423.out) hb); have NB438_443 := Aside0.mk ((by rw [hg]; exact Nat.ne_of_lt (blk_lt (upK BK438.out)) : gb438 ≠ gb443)); have NB443_438 := Aside0.mk ((by rw [hg]; exact Nat.ne_of_gt (blk_lt (upK BK438.out)) : gb443 ≠ gb438)); replace BK438 := Aside0.mk (blk_below (upK BK438.out) hb); clear hb hbox hg; obtain ⟨Ao194, co194, eo194⟩ := Kd.V_slice HO441.out; subst eo194; have hnb195 := NB443_422.out; have hnc195 := NB422_443.out; have hnb196 := NB443_423.out; have hnc196 := NB423_443.out; have hnb197 := NB443_438.out; have hnc197 := NB438_443.out; obtain ⟨hcz198_0, hfz198_0⟩ := cells1 BK443.out))
     have n0_ : Aside0 (Kd.V (Kd.slice 25 (Kd.int .u32)) 40 (w193.setCell ⟨gb443, 0, none⟩ (.slice Ao194 t439.length co194)) w.heap.size (fun k_ => k_ ≠ gb422 ∧ k_ ≠ gb423 ∧ k_ ≠ gb438 ∧ k_ ≠ gb443) (.slice Ao175 t424.length co175) t424) := ⟨by refine upV ?_; exact Kd.V_mono (garV1 (g := gb443) (Kd.V_mono HO426.out (fun k_ hk => (⟨hk, hk.2⟩ : _ ∧ k_ ≠ gb443))) 0 (.slice Ao194 t439.length co194)) (fun _ hk => ⟨hk.1.1.1.1, ⟨hk.1.1.1.2, ⟨hk.1.1.2, hk.1.2⟩⟩⟩)⟩
     have n1_ : Aside0 (Kd.V (Kd.slice 25 (Kd.int .u32)) 40 (w193.setCell ⟨gb443, 0, none⟩ (.slice Ao194 t439.length co194)) w.heap.size (fun k_ => k_ ≠ gb422 ∧ k_ ≠ gb423 ∧ k_ ≠ gb438 ∧ k_ ≠ gb443) (.slice Ao177 t427.length co177) t427) := ⟨by refine upV ?_; exact Kd.V_mono (garV1 (g := gb443) (Kd.V_mono HO429.out (fun k_ hk => (⟨hk, hk.2⟩ : _ ∧ k_ ≠ gb443))) 0 (.slice Ao194 t439.length co194)) (fun _ hk => ⟨hk.1.1.1.1, ⟨hk.1.1.1.2, ⟨hk.1.1.2, hk.1.2⟩⟩⟩)⟩
     have n2_ : Aside0 (Kd.V (Kd.slice 25 (Kd.int .u32)) 40 (w193.setCell ⟨gb443, 0, none⟩ (.slice Ao194 t439.length co194)) w.heap.size (fun k_ => k_ ≠ gb422 ∧ k_ ≠ gb423 ∧ k_ ≠ gb438 ∧ k_ ≠ gb443) (.slice Ao187 t434.length co187) t434) := ⟨by refine upV ?_; exact Kd.V_mono (garV1 (g := gb443) (Kd.V_mono HO436.out (fun k_ hk => (⟨hk, hk.2⟩ : _ ∧ k_ ≠ gb443))) 0 (.slice Ao194 t439.length co194)) (fun _ hk => ⟨hk.1.1.1.1, ⟨hk.1.1.1.2, ⟨hk.1.1.2, hk.1.2⟩⟩⟩)⟩
     have n3_ : Aside0 (Kd.V (Kd.slice 25 (Kd.int .u32)) 40 (w193.setCell ⟨gb443, 0, none⟩ (.slice Ao194 t439.length co194)) w.heap.size (fun k_ => k_ ≠ gb422 ∧ k_ ≠ gb423 ∧ k_ ≠ gb438 ∧ k_ ≠ gb443) (.slice Ao194 t439.length co194) t439) := ⟨by refine upV ?_; exact Kd.V_mono (garV1 (g := gb443) (Kd.V_mono HO441.out (fun k_ hk => (⟨hk, hk.2⟩ : _ ∧ k_ ≠ gb443))) 0 (.slice Ao194 t439.length co194)) (fun _ hk => ⟨hk.1.1.1, ⟨hk.1.1.2.1, ⟨hk.1.1.2.2, hk.1.2⟩⟩⟩)⟩
     have n4_ : Aside0 ((w193.setCell ⟨gb443, 0, none⟩ (.slice Ao194 t439.length co194)).heap[gb422]? = some (.cells #[.slice Ao175 t424.length co175] 24 (0, 0))) := ⟨by refine upK ?_; refine blk_far ?_ NB422_443.out _; refine upK ?_; exact BK422.out⟩
     have n5_ : Aside0 ((w193.setCell ⟨gb443, 0, none⟩ (.slice Ao194 t439.length co194)).heap[gb423]? = some (.cells #[.slice Ao177 t427.length co177] 24 (0, 0))) := ⟨by refine upK ?_; refine blk_far ?_ NB423_443.out _; refine upK ?_; exact BK423.out⟩
     have n6_ : Aside0 ((w193.setCell ⟨gb443, 0, none⟩ (.slice Ao194 t439.length co194)).heap[gb438]? = some (.cells #[.slice Ao187 t434.length co187] 24 (0, 0))) := ⟨by refine upK ?_; refine blk_far ?_ NB438_443.out _; refine upK ?_; exact BK438.out⟩
     have n7_ : Aside0 ((w193.setCell ⟨gb443, 0, none⟩ (.slice Ao194 t439.length co194)).heap[gb443]? = some (.cells #[.slice Ao194 t439.length co194] 24 (0, 0))) := ⟨by refine upK ?_; refine blk_put (cs := #[.slice none 0 0]) ?_ 0 _ rfl; refine upK ?_; exact BK443.out⟩
     have n8_ : Aside0 (Below w.heap.size w (w193.setCell ⟨gb443, 0, none⟩ (.slice Ao194 t439.length co194))) := ⟨upB4 HB.out GE422.out GE423.out GE438.out GE443.out⟩
     (try clear HO426); (try clear HO429); (try clear HO436); (try clear HO441); (try clear BK422); (try clear BK423); (try clear BK438); (try clear BK443); (try clear HB)
     generalize (w193.setCell ⟨gb443, 0, none⟩ (.slice Ao194 t439.length co194)) = w199 at n0_ n1_ n2_ n3_ n4_ n5_ n6_ n7_ n8_ ⊢
     have HO426 := n0_
     have HO429 := n1_
     have HO436 := n2_
     have HO441 := n3_
     have BK422 := n4_
     have BK423 := n5_
     have BK438 := n6_
     have BK443 := n7_
     have HB := n8_
     clear n0_ n1_ n2_ n3_ n4_ n5_ n6_ n7_ n8_
     replace HO426 := Aside0.mk (Kd.V_drew HO426.out)
     replace HO429 := Aside0.mk (Kd.V_drew HO429.out)
     replace HO436 := Aside0.mk (Kd.V_drew HO436.out)
     replace HO441 := Aside0.mk (Kd.V_drew HO441.out)
     replace BK422 := Aside0.mk (blk_drew BK422.out)
     replace BK423 := Aside0.mk (blk_drew BK423.out)
     replace BK438 := Aside0.mk (blk_drew BK438.out)
     replace BK443 := Aside0.mk (blk_drew BK443.out)
     replace HB := Aside0.mk (below_drew1 HB.out)
     refine start_ (n := 43) (S := fun w' => w'.cell? ⟨gb422, 0, none⟩ = some (.slice Ao175 t424.length co175) ∧ w'.cell? ⟨gb438, 0, none⟩ = some (.slice Ao187 t434.length co187) ∧ w'.cell? ⟨gb443, 0, none⟩ = some (.slice Ao194 t439.length co194)) (ds := []) (Array.replicate 43 false) (by kernel_rfl) rfl rfl ⟨(blk_cell BK422.out 0).trans rfl, (blk_cell BK438.out 0).trans rfl, (blk_cell BK443.out 0).trans rfl⟩ (fun hHeld => ?_); refine with_tabW plinthlaw25_TreeAsks.tab6 plinthlaw25_TreeAsks.bits6 (fun HT_ HW_ => ?_)
     generalize w199.drew = w200 at HO426 HO429 HO436 HO441 BK422 BK423 BK438 BK443 HB hHeld ⊢
     refine tM 0 45 HT_.out HW_.out hHeld ?_; refine tM 2 47 HT_.out HW_.out hHeld ?_
     refine oM 1 46 HT_.out (fun K hK => ?_)
     refine gM Try.func32 #[.agg #[.slice Ao175 t424.length co175]] ?_
     with_reducible refine (tree_Check.calls k _ _ t424 t444 _ ?side1 ?side2 A11.out).mono ?_
     (case side1 => exact upC ((Kd.V_reads' HO426.out).2.2))
     (case side2 => exact (Kd.V_reads' HO426.out).2.1)
     rintro e w201 ⟨rfl, hb⟩
     refine ⟨_, rfl, ?_⟩
     replace HO426 := Aside0.mk (Kd.V_below (upV HO426.out) hb)
     replace HO429 := Aside0.mk (Kd.V_below (upV HO429.out) hb)
     replace HO436 := Aside0.mk (Kd.V_below (upV HO436.out) hb)
     replace HO441 := Aside0.mk (Kd.V_below (upV HO441.out) hb)
     replace BK422 := Aside0.mk (blk_below (upK BK422.out) hb)
     replace BK423 := Aside0.mk (blk_below (upK BK423.out) hb)
     replace BK438 := Aside0.mk (blk_below (upK BK438.out) hb)
     replace BK443 := Aside0.mk (blk_below (upK BK443.out) hb)
     replace HB := Aside0.mk (below_step (upB4 HB.out GE422.out GE423.out GE438.out GE443.out) hb)
     (try clear hb); (try clear hb2); (try clear hk); (try clear hi)
     refine hK.out _ _ ⟨(blk_cell BK422.out 0).trans rfl, (blk_cell BK438.out 0).trans rfl, (blk_cell BK443.out 0).trans rfl⟩ (fun hHeld => ?_)
     clear hK K
     refine nM 46 ?_
     refine oM 3 48 HT_.out (fun K hK => ?_)
     refine gM Try.func33 #[.agg #[.slice Ao175 t424.length co175]] ?_
     with_reducible refine (plinthref25_Check.calls k _ _ t424 t445 _ ?side1 ?side2 A12.out).mono ?_
     (case side1 => exact upC ((Kd.V_reads' HO426.out).2.2))
     (case side2 => exact (Kd.V_reads' HO426.out).2.1)
     rintro e w202 ⟨rfl, hb⟩
     refine ⟨_, rfl, ?_⟩
     replace HO426 := Aside0.mk (Kd.V_below (upV HO426.out) hb)
     replace HO429 := Aside0.mk (Kd.V_below (upV HO429.out) hb)
     replace HO436 := Aside0.mk (Kd.V_below (upV HO436.out) hb)
     replace HO441 := Aside0.mk (Kd.V_below (upV HO441.out) hb)
     replace BK422 := Aside0.mk (blk_below (upK BK422.out) hb)
     replace BK423 := Aside0.mk (blk_below (upK BK423.out) hb)
     replace BK438 := Aside0.mk (blk_below (upK BK438.out) hb)
     replace BK443 := Aside0.mk (blk_below (upK BK443.out) hb)
     replace HB := Aside0.mk (below_step (upB4 HB.out GE422.out GE423.out GE438.out GE443.out) hb)
     (try clear hb); (try clear hb2); (try clear hk); (try clear hi)
     refine hK.out _ _ ⟨(blk_cell BK422.out 0).trans rfl, (blk_cell BK438.out 0).trans rfl, (blk_cell BK443.out 0).trans rfl⟩ (fun hHeld => ?_)
     clear hK K
     refine nM 48 ?_; refine pM 4 49 HT_.out ?_; refine pM 5 50 HT_.out ?_; refine pM 6 51 HT_.out ?_; refine pM 7 52 HT_.out ?_; refine pM 8 53 HT_.out ?_; refine pM 9 54 HT_.out ?_; refine pM 10 55 HT_.out ?_; refine pM 11 56 HT_.out ?_; refine pM 12 57 HT_.out ?_; refine pM 13 58 HT_.out ?_; refine pM 14 59 HT_.out ?_; refine pM 15 60 HT_.out ?_; refine tM 16 61 HT_.out HW_.out hHeld ?_; refine tM 17 62 HT_.out HW_.out hHeld ?_
     refine oM 18 63 HT_.out (fun K hK => ?_)
     refine gM Try.func27 #[.agg #[.slice Ao187 t434.length co187], .agg #[.slice Ao194 t439.length co194]] ?_
     with_reducible refine (plinthref25_Same.calls k _ _ t434 _ _ t439 false _ ?side1 ?side2 ?side3 ?side4 A16.out).mono ?_
     (case side1 => exact upC ((Kd.V_reads' HO436.out).2.2))
     (case side2 => exact (Kd.V_reads' HO436.out).2.1)
     (case side3 => exact upC ((Kd.V_reads' HO441.out).2.2))
     (case side4 => exact (Kd.V_reads' HO441.out).2.1)
     rintro e w203 ⟨rfl, hb⟩
     refine ⟨_, rfl, ?_⟩
     replace HO426 := Aside0.mk (Kd.V_below (upV HO426.out) hb)
     replace HO429 := Aside0.mk (Kd.V_below (upV HO429.out) hb)
     replace HO436 := Aside0.mk (Kd.V_below (upV HO436.out) hb)
     replace HO441 := Aside0.mk (Kd.V_below (upV HO441.out) hb)
     replace BK422 := Aside0.mk (blk_below (upK BK422.out) hb)
     replace BK423 := Aside0.mk (blk_below (upK BK423.out) hb)
     replace BK438 := Aside0.mk (blk_below (upK BK438.out) hb)
     replace BK443 := Aside0.mk (blk_below (upK BK443.out) hb)
     replace HB := Aside0.mk (below_step (upB4 HB.out GE422.out GE423.out GE438.out GE443.out) hb)
     (try clear hb); (try clear hb2); (try clear hk); (try clear hi)
     refine hK.out _ _ ⟨(blk_cell BK422.out 0).trans rfl, (blk_cell BK438.out 0).trans rfl, (blk_cell BK443.out 0).trans rfl⟩ (fun hHeld => ?_)
     clear hK K
     refine nM 63 ?_; refine pM 19 64 HT_.out ?_; refine pM 20 65 HT_.out ?_; refine uM 21 66 HT_.out ?_; refine uM 22 67 HT_.out ?_; refine uM 23 68 HT_.out ?_; refine pM 24 69 HT_.out ?_; refine pM 25 70 HT_.out ?_; refine uM 26 71 HT_.out ?_; refine uM 27 72 HT_.out ?_; refine uM 28 73 HT_.out ?_; refine uM 29 74 HT_.out ?_; refine uM 30 75 HT_.out ?_; refine uM 31 76 HT_.out ?_; refine uM 32 77 HT_.out ?_; refine pM 33 78 HT_.out ?_; refine pM 34 79 HT_.out ?_; refine uM 35 80 HT_.out ?_; refine uM 36 81 HT_.out ?_; refine uM 37 82 HT_.out ?_; refine pM 38 83 HT_.out ?_; refine pM 39 84 HT_.out ?_; refine uM 40 85 HT_.out ?_; refine pM 41 86 HT_.out ?_; refine pM 42 8 HT_.out ?_
     refine done_ (done_of HT_.out (by kernel_rfl)) ?_
     try go_wp2
     go_ret
     exact ⟨by first | rfl | (simp [errW_none, errW_some] <;> rfl) | (simp [*, errW_none, errW_some] <;> rfl), upB4 HB.out GE422.out GE423.out GE438.out GE443.out⟩
   ·rw [if_neg c15] at H
    exact absurd (H.trans (congrArg some hr_.out)) (by simp)
  ·rw [if_neg c14] at H
   exact absurd (H.trans (congrArg some hr_.out)) (by simp)
 ·rw [if_neg c13] at H
  exact absurd (H.trans (congrArg some hr_.out)) (by simp)
end Go.Proofs.Ytbmmddngadnofaa.F
