-- Written by ext (this session's own program).
-- in short rows (short.py)
import Derived.Test.YtbmmddngadnofaaFx0
import Derived.Test.YtbmmddngadnofaaFx6
import Derived.Test.YtbmmddngadnofaaFx8
import Derived.Test.YtbmmddngadnofaaFx14
import Derived.Test.YtbmmddngadnofaaFx16
import Derived.Test.YtbmmddngadnofaaFx18
import Derived.Test.YtbmmddngadnofaaFx24
import Derived.Test.YtbmmddngadnofaaFx26
import Derived.Test.YtbmmddngadnofaaFx28
namespace Go.Proofs.Ytbmmddngadnofaa.F
open Go.RowKit Go.Proofs.YtbmmddngadnofaaW.PrintWords Go.Proofs.YtbmmddngadnofaaW.PrintLast Go.Proofs.YtbmmddngadnofaaW.PrintMore
attribute [local go_sem] max2_int min2_int max_two min_two max_three min_three max_four min_four   -- for this text's walks alone
set_option linter.unusedVariables false
set_option linter.unusedSimpArgs false

/-! ### plinthlaw25_TreeMakes: function 4 -/
def plinthlaw25_TreeMakes.f (k : Nat) (a0_0 : Int) (a0_1 : Int) (l0_2 : List Int) (l1 : List Int) : Option (Bool) := (plinthlaw25_few.f l1).bind fun t336 => (if (l0_2.length : Int) > 5000 then (if 5000 ≤ (l0_2.length : Int) then ((some (l0_2.take 5000 : List Int)).bind fun y339 => ((tree_Make.f k t336).bind fun bt343 => ((plinthref25_Make.f k t336).bind fun bt348 => ((tree_Leaf.f k a0_0 a0_1 y339).bind fun t353 => ((plinthref25_Leaf.f k a0_0 a0_1 y339).bind fun t354 => (if t353 = t354 then ((tree_Row.f k t336).bind fun t355 => ((plinthref25_Row.f k t336).bind fun t356 => (if t355 = t356 then ((plinthref25_Same.f k bt343.1 bt348.1).bind fun t357 => (if t357 = true then (if bt343.2 = bt348.2 then ((plinthlaw25_awake.f k).bind fun t358 => (some t358)) else (some false)) else (some false))) else (some false)))) else (some false))))))) else (none)) else ((tree_Make.f k t336).bind fun bt359 => ((plinthref25_Make.f k t336).bind fun bt364 => ((tree_Leaf.f k a0_0 a0_1 l0_2).bind fun t369 => ((plinthref25_Leaf.f k a0_0 a0_1 l0_2).bind fun t370 => (if t369 = t370 then ((tree_Row.f k t336).bind fun t371 => ((plinthref25_Row.f k t336).bind fun t372 => (if t371 = t372 then ((plinthref25_Same.f k bt359.1 bt364.1).bind fun t373 => (if t373 = true then (if bt359.2 = bt364.2 then ((plinthlaw25_awake.f k).bind fun t374 => (some t374)) else (some false)) else (some false))) else (some false)))) else (some false)))))))
theorem plinthlaw25_TreeMakes.mono : ∀ a0 a1 a2 a3 k, LeO (plinthlaw25_TreeMakes.f k a0 a1 a2 a3) (plinthlaw25_TreeMakes.f (k + 1) a0 a1 a2 a3) := by
 intro a0 a1 a2 a3 k
 unfold plinthlaw25_TreeMakes.f
 repeat' first
   | (with_reducible exact plinthlaw25_awake.mono _)
   | (with_reducible exact plinthref25_Leaf.mono _ _ _ _)
   | (with_reducible exact plinthref25_Make.mono _ _)
   | (with_reducible exact plinthref25_Row.mono _ _)
   | (with_reducible exact plinthref25_Same.mono _ _ _)
   | (with_reducible exact tree_Leaf.mono _ _ _ _)
   | (with_reducible exact tree_Make.mono _ _)
   | (with_reducible exact tree_Row.mono _ _)
   | (with_reducible exact LeO.refl _)
   | (with_reducible exact LeO.none _)
   | (with_reducible refine LeO.ite ?_ ?_)
   | (with_reducible refine LeO.bind ?_ (fun _ => ?_))
   | exact plinthlaw25_awake.mono _
   | exact plinthref25_Leaf.mono _ _ _ _
   | exact plinthref25_Make.mono _ _
   | exact plinthref25_Row.mono _ _
   | exact plinthref25_Same.mono _ _ _
   | exact tree_Leaf.mono _ _ _ _
   | exact tree_Make.mono _ _
   | exact tree_Row.mono _ _
   | exact LeO.none _
   | refine LeO.ite ?_ ?_
   | refine LeO.bind ?_ (fun _ => ?_)
def plinthlaw25_TreeMakes.T6 : Bool × List (List Nat × List Nat) := (true, [([], []), ([0], [0]), ([], []), ([2, 1], [2]), ([1, 3], [1, 3]), ([4, 3], [4]), ([5], [5]), ([6, 5, 5], [5, 6]), ([5], [5]), ([8, 7, 5], [5, 8]), ([7, 9, 5], [5, 7, 9]), ([5, 10], [5, 10]), ([11, 9], [11]), ([12], [12]), ([12], [12]), ([13, 14, 12, 12], [12, 13, 14]), ([12, 15], [12, 15]), ([16, 15], [16]), ([17], [17]), ([17], [17]), ([18, 19, 17], [17, 18, 19]), ([17, 20], [17, 20]), ([21, 17], [21]), ([22, 22], [22]), ([22, 23], [22, 23]), ([24, 23, 0, 1, 2, 3, 4, 5, 6, 7, 8, 9, 10, 11, 12, 13, 14, 15, 16, 17, 18, 19, 20, 21, 22, 23, 24], [24])])
def plinthlaw25_TreeMakes.B6 : List Nat := [0, 1, 0, 7, 15, 31, 63, 127, 63, 511, 1023, 2047, 4095, 8191, 8191, 32767, 65535, 131071, 262143, 262143, 1048575, 2097151, 4194303, 8388607, 16777215, 33554431]
theorem plinthlaw25_TreeMakes.tab6 : rtab .any (opsOf Try.f4 6) = plinthlaw25_TreeMakes.T6 := by kernel_rfl
theorem plinthlaw25_TreeMakes.bits6 : waitsOk plinthlaw25_TreeMakes.T6.2 plinthlaw25_TreeMakes.B6 = true := by kernel_rfl
set_option maxHeartbeats 8000000 in
set_option maxRecDepth 100000 in
theorem plinthlaw25_TreeMakes.callsA (k : Nat) (a0_0 : Int) (a0_1 : Int) (A0_2 : Option Addr) (c0_2 : Nat) (l0_2 : List Int) (A1 : Option Addr) (c1 : Nat) (l1 : List Int) (r : Bool) (w : World) (hr0_2 : Kd.C (Kd.int .u8) w A0_2 l0_2.length l0_2) (hc0_2 : l0_2.length ≤ c0_2) (hr1 : Kd.C (Kd.int .u32) w A1 l1.length l1) (hc1 : l1.length ≤ c1) (h : plinthlaw25_TreeMakes.f k a0_0 a0_1 l0_2 l1 = some r) (c4 : (l0_2.length : Int) > 5000) :
  Calls Try.prog 4 #[.agg #[.int .i64 a0_0, .int .i64 a0_1, .slice A0_2 l0_2.length c0_2], .slice A1 l1.length c1] w fun e w' => e = .returned (.bool r) ∧ Below w.heap.size w w' := by
 have hu39 := Try.underlying39
 have hu24 := Try.underlying24
 have HR0_2 := Aside0.mk hr0_2
 have HC0_2 := Aside0.mk hc0_2
 clear hr0_2 hc0_2
 have HR1 := Aside0.mk hr1
 have HC1 := Aside0.mk hc1
 clear hr1 hc1
 have HB := Aside0.mk (Below.refl w.heap.size w)
 have H : ((plinthlaw25_few.f l1).bind fun t336 => (if (l0_2.length : Int) > 5000 then (if 5000 ≤ (l0_2.length : Int) then ((some (l0_2.take 5000 : List Int)).bind fun y339 => ((tree_Make.f k t336).bind fun bt343 => ((plinthref25_Make.f k t336).bind fun bt348 => ((tree_Leaf.f k a0_0 a0_1 y339).bind fun t353 => ((plinthref25_Leaf.f k a0_0 a0_1 y339).bind fun t354 => (if t353 = t354 then ((tree_Row.f k t336).bind fun t355 => ((plinthref25_Row.f k t336).bind fun t356 => (if t355 = t356 then ((plinthref25_Same.f k bt343.1 bt348.1).bind fun t357 => (if t357 = true then (if bt343.2 = bt348.2 then ((plinthlaw25_awake.f k).bind fun t358 => (some t358)) else (some false)) else (some false))) else (some false)))) else (some false))))))) else (none)) else ((tree_Make.f k t336).bind fun bt359 => ((plinthref25_Make.f k t336).bind fun bt364 => ((tree_Leaf.f k a0_0 a0_1 l0_2).bind fun t369 => ((plinthref25_Leaf.f k a0_0 a0_1 l0_2).bind fun t370 => (if t369 = t370 then ((tree_Row.f k t336).bind fun t371 => ((plinthref25_Row.f k t336).bind fun t372 => (if t371 = t372 then ((plinthref25_Same.f k bt359.1 bt364.1).bind fun t373 => (if t373 = true then (if bt359.2 = bt364.2 then ((plinthlaw25_awake.f k).bind fun t374 => (some t374)) else (some false)) else (some false))) else (some false)))) else (some false)))))))) = some r := h
 clear h
 replace H := Option.bind_eq_some_iff.mp H
 obtain ⟨t336, A30, H⟩ := H
 replace H : (if (l0_2.length : Int) > 5000 then (if 5000 ≤ (l0_2.length : Int) then ((some (l0_2.take 5000 : List Int)).bind fun y339 => ((tree_Make.f k t336).bind fun bt343 => ((plinthref25_Make.f k t336).bind fun bt348 => ((tree_Leaf.f k a0_0 a0_1 y339).bind fun t353 => ((plinthref25_Leaf.f k a0_0 a0_1 y339).bind fun t354 => (if t353 = t354 then ((tree_Row.f k t336).bind fun t355 => ((plinthref25_Row.f k t336).bind fun t356 => (if t355 = t356 then ((plinthref25_Same.f k bt343.1 bt348.1).bind fun t357 => (if t357 = true then (if bt343.2 = bt348.2 then ((plinthlaw25_awake.f k).bind fun t358 => (some t358)) else (some false)) else (some false))) else (some false)))) else (some false))))))) else (none)) else ((tree_Make.f k t336).bind fun bt359 => ((plinthref25_Make.f k t336).bind fun bt364 => ((tree_Leaf.f k a0_0 a0_1 l0_2).bind fun t369 => ((plinthref25_Leaf.f k a0_0 a0_1 l0_2).bind fun t370 => (if t369 = t370 then ((tree_Row.f k t336).bind fun t371 => ((plinthref25_Row.f k t336).bind fun t372 => (if t371 = t372 then ((plinthref25_Same.f k bt359.1 bt364.1).bind fun t373 => (if t373 = true then (if bt359.2 = bt364.2 then ((plinthlaw25_awake.f k).bind fun t374 => (some t374)) else (some false)) else (some false))) else (some false)))) else (some false))))))) = some r := H
 have A3 := Aside0.mk A30
 clear A30
 ·rw [if_pos c4] at H
  have c4b0 : decide (5000 < (l0_2.length : Int)) = true := decide_eq_true c4
  have c4b1 : decide (5000 < l0_2.length) = true := decide_eq_true (by omega)
  clear c4
  by_cases c5 : 5000 ≤ (l0_2.length : Int)
  ·rw [if_pos c5] at H
   have c5b0 := eq_true c5
   have c5b1 : decide (5000 ≤ (l0_2.length : Int)) = true := decide_eq_true c5
   clear c5
   obtain ⟨y339, hy339⟩ : ∃ y_ : List Int, y_ = (l0_2.take 5000) := ⟨_, rfl⟩
   replace H : ((tree_Make.f k t336).bind fun bt343 => ((plinthref25_Make.f k t336).bind fun bt348 => ((tree_Leaf.f k a0_0 a0_1 y339).bind fun t353 => ((plinthref25_Leaf.f k a0_0 a0_1 y339).bind fun t354 => (if t353 = t354 then ((tree_Row.f k t336).bind fun t355 => ((plinthref25_Row.f k t336).bind fun t356 => (if t355 = t356 then ((plinthref25_Same.f k bt343.1 bt348.1).bind fun t357 => (if t357 = true then (if bt343.2 = bt348.2 then ((plinthlaw25_awake.f k).bind fun t358 => (some t358)) else (some false)) else (some false))) else (some false)))) else (some false)))))) = some r := by first | (rw [hy339]; with_reducible exact H) | (have H2_ := (Option.bind_some _ _).symm.trans H; rw [hy339]; with_reducible exact H2_) | (have H2_ := (Option.bind_some _ _).symm.trans H; with_reducible exact H2_) | with_reducible exact H | (rw [hy339]; exact H) | exact H
   have Ny339 := Aside0.mk hy339
   clear hy339
   replace H := Option.bind_eq_some_iff.mp H
   obtain ⟨⟨t343, t346⟩, A60, H⟩ := H
   replace H : ((plinthref25_Make.f k t336).bind fun bt348 => ((tree_Leaf.f k a0_0 a0_1 y339).bind fun t353 => ((plinthref25_Leaf.f k a0_0 a0_1 y339).bind fun t354 => (if t353 = t354 then ((tree_Row.f k t336).bind fun t355 => ((plinthref25_Row.f k t336).bind fun t356 => (if t355 = t356 then ((plinthref25_Same.f k t343 bt348.1).bind fun t357 => (if t357 = true then (if t346 = bt348.2 then ((plinthlaw25_awake.f k).bind fun t358 => (some t358)) else (some false)) else (some false))) else (some false)))) else (some false))))) = some r := H
   have A6 := Aside0.mk A60
   clear A60
   replace H := Option.bind_eq_some_iff.mp H
   obtain ⟨⟨t348, t351⟩, A70, H⟩ := H
   replace H : ((tree_Leaf.f k a0_0 a0_1 y339).bind fun t353 => ((plinthref25_Leaf.f k a0_0 a0_1 y339).bind fun t354 => (if t353 = t354 then ((tree_Row.f k t336).bind fun t355 => ((plinthref25_Row.f k t336).bind fun t356 => (if t355 = t356 then ((plinthref25_Same.f k t343 t348).bind fun t357 => (if t357 = true then (if t346 = t351 then ((plinthlaw25_awake.f k).bind fun t358 => (some t358)) else (some false)) else (some false))) else (some false)))) else (some false)))) = some r := H
   have A7 := Aside0.mk A70
   clear A70
   replace H := Option.bind_eq_some_iff.mp H
   obtain ⟨t353, A80, H⟩ := H
   replace H : ((plinthref25_Leaf.f k a0_0 a0_1 y339).bind fun t354 => (if t353 = t354 then ((tree_Row.f k t336).bind fun t355 => ((plinthref25_Row.f k t336).bind fun t356 => (if t355 = t356 then ((plinthref25_Same.f k t343 t348).bind fun t357 => (if t357 = true then (if t346 = t351 then ((plinthlaw25_awake.f k).bind fun t358 => (some t358)) else (some false)) else (some false))) else (some false)))) else (some false))) = some r := H
   have A8 := Aside0.mk A80
   clear A80
   replace H := Option.bind_eq_some_iff.mp H
   obtain ⟨t354, A90, H⟩ := H
   replace H : (if t353 = t354 then ((tree_Row.f k t336).bind fun t355 => ((plinthref25_Row.f k t336).bind fun t356 => (if t355 = t356 then ((plinthref25_Same.f k t343 t348).bind fun t357 => (if t357 = true then (if t346 = t351 then ((plinthlaw25_awake.f k).bind fun t358 => (some t358)) else (some false)) else (some false))) else (some false)))) else (some false)) = some r := H
   have A9 := Aside0.mk A90
   clear A90
   by_cases c10 : t353 = t354
   ·rw [if_pos c10] at H
    have c10b0 : (t353 == t354) = true := beq_iff_eq.mpr c10
    have c10b1 : (t353 != t354) = false := bne_eq_false_iff_eq.mpr c10
    clear c10
    replace H := Option.bind_eq_some_iff.mp H
    obtain ⟨t355, A110, H⟩ := H
    replace H : ((plinthref25_Row.f k t336).bind fun t356 => (if t355 = t356 then ((plinthref25_Same.f k t343 t348).bind fun t357 => (if t357 = true then (if t346 = t351 then ((plinthlaw25_awake.f k).bind fun t358 => (some t358)) else (some false)) else (some false))) else (some false))) = some r := H
    have A11 := Aside0.mk A110
    clear A110
    replace H := Option.bind_eq_some_iff.mp H
    obtain ⟨t356, A120, H⟩ := H
    replace H : (if t355 = t356 then ((plinthref25_Same.f k t343 t348).bind fun t357 => (if t357 = true then (if t346 = t351 then ((plinthlaw25_awake.f k).bind fun t358 => (some t358)) else (some false)) else (some false))) else (some false)) = some r := H
    have A12 := Aside0.mk A120
    clear A120
    by_cases c13 : t355 = t356
    ·rw [if_pos c13] at H
     have c13b0 : (t355 == t356) = true := beq_iff_eq.mpr c13
     have c13b1 : (t355 != t356) = false := bne_eq_false_iff_eq.mpr c13
     clear c13
     replace H := Option.bind_eq_some_iff.mp H
     obtain ⟨t357, A140, H⟩ := H
     replace H : (if t357 = true then (if t346 = t351 then ((plinthlaw25_awake.f k).bind fun t358 => (some t358)) else (some false)) else (some false)) = some r := H
     have A14 := Aside0.mk A140
     clear A140
     by_cases c15 : t357 = true
     ·subst c15
      have H1 : (if t346 = t351 then ((plinthlaw25_awake.f k).bind fun t358 => (some t358)) else (some false)) = some r := by rw [if_pos rfl] at H; exact H
      clear H
      have H := H1
      clear H1
      by_cases c16 : t346 = t351
      ·rw [if_pos c16] at H
       have c16b0 : (t346 == t351) = true := beq_iff_eq.mpr c16
       have c16b1 : (t346 != t351) = false := bne_eq_false_iff_eq.mpr c16
       clear c16
       replace H := Option.bind_eq_some_iff.mp H
       obtain ⟨t358, A170, H⟩ := H
       replace H : (some t358) = some r := H
       have A17 := Aside0.mk A170
       clear A170
       obtain rfl := Option.some.inj H
       go_enter Try.func4, Try.ntmps4
       try go_wp2_with (first | ((with_reducible refine gate_dst (N := 2) rfl ?_); refine box_event ?hg (N := 2) ?hd (cs := #[.int .i64 a0_0, .int .i64 a0_1, .slice A0_2 l0_2.length c0_2]) (t := 39) ?hr ?_; (case hd => rfl); (case hg => rfl); (case hr => first | (go_simp; done) | (go_simp; rfl)); intro gb335 hg w18 hbox hb; have BK335 := Aside0.mk (hbox); have GW335 := Aside0.mk ((by rw [hg]; exact (below_size (upB0 HB.out)) : w.heap.size ≤ gb335)); have GE335 := Aside0.mk ((by rw [hg]; exact (below_size (upB0 HB.out)) : w.heap.size ≤ gb335)); replace HB := Aside0.mk (below_step (upB0 HB.out) hb); clear hb hbox hg) | ((with_reducible refine gate_callee (f := 20) rfl ?_); refine goesL_ (some 10) rfl rfl Try.func20 (by kernel_rfl) rfl #[.slice A1 l1.length c1] rfl argA ?_; (with_reducible refine (plinthlaw25_few.calls (fun k_ => k_ < w.heap.size) _ _ l1 t336 _ ?side1 A3.out).mono ?_); (case side1 => exact Kd.V_mk HC1.out (Kd.F_below (Kd.C_F (Kd.heap_int .u32) HR1.out) (upB1 HB.out GE335.out))); rintro e w19 ⟨v337, rfl, ho0, hb⟩; refine ⟨_, rfl, ?_⟩; have HO338 := Aside0.mk (Kd.V_lower (Kd.V_mono (ok' := fun k_ => k_ ≠ gb335) ho0 (fun k_ hk_ => Or.elim hk_ (fun hs_ => fun e_ => Nat.not_le.2 hs_ (by rw [e_]; exact GW335.out)) (fun hn_ => (Kd.freshB (upK BK335.out) k_ hn_)))) (below_size (upB1 HB.out GE335.out))); replace BK335 := Aside0.mk (blk_below (upK BK335.out) hb); replace HB := Aside0.mk (below_step (upB1 HB.out GE335.out) hb); (try clear hb); (try clear hb2); (try clear hk); (try clear hi); (try clear ho0); obtain ⟨hcz20_0, hcz20_1, hcz20_2, hfz20_0, hfz20_1, hfz20_2⟩ := cells3 BK335.out; have q21 : (5000 : Int) ≤ ((l0_2.length : Int) : Int) := of_decide_eq_true (by first | (with_reducible assumption) | assumption); obtain ⟨i021, hi021, _, hsz21, _⟩ := info_parts info5; have hroom21 : l0_2.length ≤ c0_2 := HC0_2.out; have hC21 : Kd.C (Kd.int .u8) _ A0_2 l0_2.length l0_2 := HR0_2.out; have hcut21 := cut_to (P := Try.prog) 37 5 .i64 Try.underlying37 hi021 A0_2 l0_2.length c0_2 5000 (by omega) q21 hroom21; have hr21 := Kd.C_take (m := 5000) hC21 (by omega); have hy21 : y339.length = (5000 : Int).toNat := (by rw [Ny339.out, List.length_take]; omega); rw [← Ny339.out] at hr21; rw [← hy21] at hcut21; have HR342 := Aside0.mk hr21; have HC342 := Aside0.mk (show y339.length ≤ c0_2 from by omega); clear hr21 hC21 hroom21 hi021 hsz21; have KY21 := Aside0.mk hy21; clear hy21; replace q21 := eq_true q21; obtain ⟨Ao22, co22, eo22⟩ := Kd.V_slice HO338.out; subst eo22) | ((with_reducible refine gate_callee (f := 21) rfl ?_); refine goesL_ (some 21) rfl rfl Try.func21 (by kernel_rfl) rfl #[.slice Ao22 t336.length co22] rfl argA ?_; (with_reducible refine (tree_Make.calls k _ _ t336 t343 t346 _ ?side1 ?side2 A6.out).mono ?_); (case side1 => refine (Kd.V_reads' (e := 25) (base := w.heap.size) (ok := fun k_ => k_ ≠ gb335) (n := t336.length) (c := co22) ?_).2.2; exact (by refine upV ?_; exact (fV1 (Kd.V_mono HO338.out (fun k_ hk => (⟨hk, hk⟩ : _ ∧ k_ ≠ gb335)))))); (case side2 => exact (Kd.V_reads' HO338.out).2.1); rintro e w23 ⟨v344, rfl, ho0, hb⟩; refine ⟨_, rfl, ?_⟩; replace HO338 := Aside0.mk (Kd.V_below (by refine upV ?_; exact (fV1 (Kd.V_mono HO338.out (fun k_ hk => (⟨hk, hk⟩ : _ ∧ k_ ≠ gb335))))) hb); have HO345 := Aside0.mk (Kd.V_lower (Kd.V_mono (ok' := fun k_ => k_ ≠ gb335) ho0 (fun k_ hk_ => (Kd.freshB (g := gb335) (o := .cells #[.int .i64 a0_0, .int .i64 a0_1, .slice A0_2 y339.length c0_2] 39 (0, 0)) (by refine upK ?_; refine blk_put (cs := #[.int .i64 a0_0, .int .i64 a0_1, .slice A0_2 l0_2.length c0_2]) ?_ 2 _ rfl; refine upK ?_; exact BK335.out) k_ hk_))) (below_size (upB1 HB.out GE335.out))); replace BK335 := Aside0.mk (blk_below (g := gb335) (o := .cells #[.int .i64 a0_0, .int .i64 a0_1, .slice A0_2 y339.length c0_2] 39 (0, 0)) (by refine upK ?_; refine blk_put (cs := #[.int .i64 a0_0, .int .i64 a0_1, .slice A0_2 l0_2.length c0_2]) ?_ 2 _ rfl; refine upK ?_; exact BK335.out) hb); replace HB := Aside0.mk (below_step (upB1 HB.out GE335.out) hb); (try clear hb); (try clear hb2); (try clear hk); (try clear hi); (try clear ho0)) | ((with_reducible refine gate_dst (N := 5) rfl ?_); refine box_event ?hg (N := 5) ?hd (cs := #[.slice none 0 0]) (t := 24) ?hr ?_; (case hd => rfl); (case hg => rfl); (case hr => first | (go_simp; done) | (go_simp; rfl)); intro gb347 hg w24 hbox hb; replace HO338 := Aside0.mk (Kd.V_below (Kd.V_elderB (upV HO338.out) gb347 (Nat.le_of_eq hg.symm)) hb); replace HO345 := Aside0.mk (Kd.V_below (Kd.V_elderB (upV HO345.out) gb347 (Nat.le_of_eq hg.symm)) hb); have BK347 := Aside0.mk (hbox); have GW347 := Aside0.mk ((by rw [hg]; exact (below_size (upB1 HB.out GE335.out)) : w.heap.size ≤ gb347)); have GE347 := Aside0.mk ((by rw [hg]; exact (below_size (upB1 HB.out GE335.out)) : w.heap.size ≤ gb347)); replace HB := Aside0.mk (below_step (upB1 HB.out GE335.out) hb); have NB335_347 := Aside0.mk ((by rw [hg]; exact Nat.ne_of_lt (blk_lt (upK BK335.out)) : gb335 ≠ gb347)); have NB347_335 := Aside0.mk ((by rw [hg]; exact Nat.ne_of_gt (blk_lt (upK BK335.out)) : gb347 ≠ gb335)); replace BK335 := Aside0.mk (blk_below (upK BK335.out) hb); clear hb hbox hg; obtain ⟨Ao25, co25, eo25⟩ := Kd.V_slice HO345.out; subst eo25; have hnb26 := NB347_335.out; have hnc26 := NB335_347.out; obtain ⟨hcz27_0, hfz27_0⟩ := cells1 BK347.out) | ((with_reducible refine gate_callee (f := 22) rfl ?_); refine goesL_ (some 26) rfl rfl Try.func22 (by kernel_rfl) rfl #[.slice Ao22 t336.length co22] rfl argA ?_; (with_reducible refine (plinthref25_Make.calls k _ _ t336 t348 t351 _ ?side1 ?side2 A7.out).mono ?_); (case side1 => refine (Kd.V_reads' (e := 25) (base := w.heap.size) (ok := fun k_ => (k_ ≠ gb335 ∧ k_ ≠ gb347)) (n := t336.length) (c := co22) ?_).2.2; exact (by refine upV ?_; exact (fV1 (Kd.V_mono HO338.out (fun k_ hk => (⟨hk, hk.2⟩ : _ ∧ k_ ≠ gb347)))))); (case side2 => exact (Kd.V_reads' HO338.out).2.1); rintro e w28 ⟨v349, rfl, ho0, hb⟩; refine ⟨_, rfl, ?_⟩; replace HO338 := Aside0.mk (Kd.V_below (by refine upV ?_; exact (fV1 (Kd.V_mono HO338.out (fun k_ hk => (⟨hk, hk.2⟩ : _ ∧ k_ ≠ gb347))))) hb); replace HO345 := Aside0.mk (Kd.V_below (by refine upV ?_; exact (fV1 (Kd.V_mono HO345.out (fun k_ hk => (⟨hk, hk.2⟩ : _ ∧ k_ ≠ gb347))))) hb); have HO350 := Aside0.mk (Kd.V_lower (Kd.V_mono (ok' := fun k_ => k_ ≠ gb335 ∧ k_ ≠ gb347) ho0 (fun k_ hk_ => ⟨(Kd.freshB (g := gb335) (o := .cells #[.int .i64 a0_0, .int .i64 a0_1, .slice A0_2 y339.length c0_2] 39 (0, 0)) (by refine upK ?_; refine blk_far ?_ NB335_347.out _; refine upK ?_; exact BK335.out) k_ hk_), (Kd.freshB (g := gb347) (o := .cells #[.slice Ao25 t343.length co25] 24 (0, 0)) (by refine upK ?_; refine blk_put (cs := #[.slice none 0 0]) ?_ 0 _ rfl; refine upK ?_; exact BK347.out) k_ hk_)⟩)) (below_size (upB2 HB.out GE335.out GE347.out))); replace BK335 := Aside0.mk (blk_below (g := gb335) (o := .cells #[.int .i64 a0_0, .int .i64 a0_1, .slice A0_2 y339.length c0_2] 39 (0, 0)) (by refine upK ?_; refine blk_far ?_ NB335_347.out _; refine upK ?_; exact BK335.out) hb); replace BK347 := Aside0.mk (blk_below (g := gb347) (o := .cells #[.slice Ao25 t343.length co25] 24 (0, 0)) (by refine upK ?_; refine blk_put (cs := #[.slice none 0 0]) ?_ 0 _ rfl; refine upK ?_; exact BK347.out) hb); replace HB := Aside0.mk (below_step (upB2 HB.out GE335.out GE347.out) hb); (try clear hb); (try clear hb2); (try clear hk); (try clear hi); (try clear ho0)) | ((with_reducible refine gate_dst (N := 7) rfl ?_); refine box_event ?hg (N := 7) ?hd (cs := #[.slice none 0 0]) (t := 24) ?hr ?_; (case hd => rfl); (case hg => rfl); (case hr => first | (go_simp; done) | (go_simp; rfl)); intro gb352 hg w29 hbox hb; replace HO338 := Aside0.mk (Kd.V_below (Kd.V_elderB (upV HO338.out) gb352 (Nat.le_of_eq hg.symm)) hb); replace HO345 := Aside0.mk (Kd.V_below (Kd.V_elderB (upV HO345.out) gb352 (Nat.le_of_eq hg.symm)) hb); replace HO350 := Aside0.mk (Kd.V_below (Kd.V_elderB (upV HO350.out) gb352 (Nat.le_of_eq hg.symm)) hb); have BK352 := Aside0.mk (hbox); have GW352 := Aside0.mk ((by rw [hg]; exact (below_size (upB2 HB.out GE335.out GE347.out)) : w.heap.size ≤ gb352)); have GE352 := Aside0.mk ((by rw [hg]; exact (below_size (upB2 HB.out GE335.out GE347.out)) : w.heap.size ≤ gb352)); replace HB := Aside0.mk (below_step (upB2 HB.out GE335.out GE347.out) hb); have NB335_352 := Aside0.mk ((by rw [hg]; exact Nat.ne_of_lt (blk_lt (upK BK335.out)) : gb335 ≠ gb352)); have NB352_335 := Aside0.mk ((by rw [hg]; exact Nat.ne_of_gt (blk_lt (upK BK335.out)) : gb352 ≠ gb335)); replace BK335 := Aside0.mk (blk_below (upK BK335.out) hb); have NB347_352 := Aside0.mk ((by rw [hg]; exact Nat.ne_of_lt (blk_lt (upK BK347.out)) : gb347 ≠ gb352)); have NB352_347 := Aside0.mk ((by rw [hg]; exact Nat.ne_of_gt (blk_lt (upK BK347.out)) : gb352 ≠ gb347)); replace BK347 := Aside0.mk (blk_below (upK BK347.out) hb); clear hb hbox hg; obtain ⟨Ao30, co30, eo30⟩ := Kd.V_slice HO350.out; subst eo30; have hnb31 := NB352_335.out; have hnc31 := NB335_352.out; have hnb32 := NB352_347.out; have hnc32 := NB347_352.out; obtain ⟨hcz33_0, hfz33_0⟩ := cells1 BK352.out))
       have n0_ : Aside0 (Kd.V (Kd.int .u32) 25 (w29.setCell ⟨gb352, 0, none⟩ (.slice Ao30 t348.length co30)) w.heap.size (fun k_ => k_ ≠ gb335 ∧ k_ ≠ gb347 ∧ k_ ≠ gb352) (.slice Ao22 t336.length co22) t336) := ⟨by refine upV ?_; exact Kd.V_mono (garV1 (g := gb352) (Kd.V_mono HO338.out (fun k_ hk => (⟨hk, hk.2⟩ : _ ∧ k_ ≠ gb352))) 0 (.slice Ao30 t348.length co30)) (fun _ hk => ⟨hk.1.1.1, ⟨hk.1.1.2, hk.1.2⟩⟩)⟩
       have n1_ : Aside0 (Kd.V (Kd.slice 25 (Kd.int .u32)) 40 (w29.setCell ⟨gb352, 0, none⟩ (.slice Ao30 t348.length co30)) w.heap.size (fun k_ => k_ ≠ gb335 ∧ k_ ≠ gb347 ∧ k_ ≠ gb352) (.slice Ao25 t343.length co25) t343) := ⟨by refine upV ?_; exact Kd.V_mono (garV1 (g := gb352) (Kd.V_mono HO345.out (fun k_ hk => (⟨hk, hk.2⟩ : _ ∧ k_ ≠ gb352))) 0 (.slice Ao30 t348.length co30)) (fun _ hk => ⟨hk.1.1.1, ⟨hk.1.1.2, hk.1.2⟩⟩)⟩
       have n2_ : Aside0 (Kd.V (Kd.slice 25 (Kd.int .u32)) 40 (w29.setCell ⟨gb352, 0, none⟩ (.slice Ao30 t348.length co30)) w.heap.size (fun k_ => k_ ≠ gb335 ∧ k_ ≠ gb347 ∧ k_ ≠ gb352) (.slice Ao30 t348.length co30) t348) := ⟨by refine upV ?_; exact Kd.V_mono (garV1 (g := gb352) (Kd.V_mono HO350.out (fun k_ hk => (⟨hk, hk.2⟩ : _ ∧ k_ ≠ gb352))) 0 (.slice Ao30 t348.length co30)) (fun _ hk => ⟨hk.1.1.1, ⟨hk.1.1.2, hk.1.2⟩⟩)⟩
       have n3_ : Aside0 ((w29.setCell ⟨gb352, 0, none⟩ (.slice Ao30 t348.length co30)).heap[gb335]? = some (.cells #[.int .i64 a0_0, .int .i64 a0_1, .slice A0_2 y339.length c0_2] 39 (0, 0))) := ⟨by refine upK ?_; refine blk_far ?_ NB335_352.out _; refine upK ?_; exact BK335.out⟩
       have n4_ : Aside0 ((w29.setCell ⟨gb352, 0, none⟩ (.slice Ao30 t348.length co30)).heap[gb347]? = some (.cells #[.slice Ao25 t343.length co25] 24 (0, 0))) := ⟨by refine upK ?_; refine blk_far ?_ NB347_352.out _; refine upK ?_; exact BK347.out⟩
       have n5_ : Aside0 ((w29.setCell ⟨gb352, 0, none⟩ (.slice Ao30 t348.length co30)).heap[gb352]? = some (.cells #[.slice Ao30 t348.length co30] 24 (0, 0))) := ⟨by refine upK ?_; refine blk_put (cs := #[.slice none 0 0]) ?_ 0 _ rfl; refine upK ?_; exact BK352.out⟩
       have n6_ : Aside0 (Below w.heap.size w (w29.setCell ⟨gb352, 0, none⟩ (.slice Ao30 t348.length co30))) := ⟨upB3 HB.out GE335.out GE347.out GE352.out⟩
       (try clear HO338); (try clear HO345); (try clear HO350); (try clear BK335); (try clear BK347); (try clear BK352); (try clear HB)
       generalize (w29.setCell ⟨gb352, 0, none⟩ (.slice Ao30 t348.length co30)) = w34 at n0_ n1_ n2_ n3_ n4_ n5_ n6_ ⊢
       have HO338 := n0_
       have HO345 := n1_
       have HO350 := n2_
       have BK335 := n3_
       have BK347 := n4_
       have BK352 := n5_
       have HB := n6_
       clear n0_ n1_ n2_ n3_ n4_ n5_ n6_
       replace HO338 := Aside0.mk (Kd.V_drew HO338.out)
       replace HO345 := Aside0.mk (Kd.V_drew HO345.out)
       replace HO350 := Aside0.mk (Kd.V_drew HO350.out)
       replace BK335 := Aside0.mk (blk_drew BK335.out)
       replace BK347 := Aside0.mk (blk_drew BK347.out)
       replace BK352 := Aside0.mk (blk_drew BK352.out)
       replace HB := Aside0.mk (below_drew1 HB.out)
       refine start_ (n := 26) (S := fun w' => w'.cell? ⟨gb335, 0, none⟩ = some (.int .i64 a0_0) ∧ w'.cell? ⟨gb335, 1, none⟩ = some (.int .i64 a0_1) ∧ w'.cell? ⟨gb335, 2, none⟩ = some (.slice A0_2 y339.length c0_2) ∧ w'.cell? ⟨gb347, 0, none⟩ = some (.slice Ao25 t343.length co25) ∧ w'.cell? ⟨gb352, 0, none⟩ = some (.slice Ao30 t348.length co30)) (ds := []) (Array.replicate 26 false) (by kernel_rfl) rfl rfl ⟨(blk_cell BK335.out 0).trans rfl, (blk_cell BK335.out 1).trans rfl, (blk_cell BK335.out 2).trans rfl, (blk_cell BK347.out 0).trans rfl, (blk_cell BK352.out 0).trans rfl⟩ (fun hHeld => ?_); refine with_tabW plinthlaw25_TreeMakes.tab6 plinthlaw25_TreeMakes.bits6 (fun HT_ HW_ => ?_)
       generalize w34.drew = w35 at HO338 HO345 HO350 BK335 BK347 BK352 HB hHeld ⊢
       refine tM 0 29 HT_.out HW_.out hHeld ?_; refine tM 2 31 HT_.out HW_.out hHeld ?_
       refine oM 1 30 HT_.out (fun K hK => ?_)
       refine gM Try.func23 #[.agg #[.int .i64 a0_0, .int .i64 a0_1, .slice A0_2 y339.length c0_2]] ?_
       with_reducible refine (tree_Leaf.calls k a0_0 a0_1 (fun k_ => k_ < w.heap.size) _ _ y339 t353 _ ?side1 A8.out).mono ?_
       (case side1 => exact Kd.V_mk HC342.out (Kd.F_below (Kd.C_F (Kd.heap_int .u8) HR342.out) (upB3 HB.out GE335.out GE347.out GE352.out)))
       rintro e w36 ⟨rfl, hb⟩
       refine ⟨_, rfl, ?_⟩
       replace HO338 := Aside0.mk (Kd.V_below (upV HO338.out) hb)
       replace HO345 := Aside0.mk (Kd.V_below (upV HO345.out) hb)
       replace HO350 := Aside0.mk (Kd.V_below (upV HO350.out) hb)
       replace BK335 := Aside0.mk (blk_below (upK BK335.out) hb)
       replace BK347 := Aside0.mk (blk_below (upK BK347.out) hb)
       replace BK352 := Aside0.mk (blk_below (upK BK352.out) hb)
       replace HB := Aside0.mk (below_step (upB3 HB.out GE335.out GE347.out GE352.out) hb)
       (try clear hb); (try clear hb2); (try clear hk); (try clear hi)
       refine hK.out _ _ ⟨(blk_cell BK335.out 0).trans rfl, (blk_cell BK335.out 1).trans rfl, (blk_cell BK335.out 2).trans rfl, (blk_cell BK347.out 0).trans rfl, (blk_cell BK352.out 0).trans rfl⟩ (fun hHeld => ?_)
       clear hK K
       refine nM 30 ?_
       refine oM 3 32 HT_.out (fun K hK => ?_)
       refine gM Try.func24 #[.agg #[.int .i64 a0_0, .int .i64 a0_1, .slice A0_2 y339.length c0_2]] ?_
       with_reducible refine (plinthref25_Leaf.calls k a0_0 a0_1 (fun k_ => k_ < w.heap.size) _ _ y339 t354 _ ?side1 A9.out).mono ?_
       (case side1 => exact Kd.V_mk HC342.out (Kd.F_below (Kd.C_F (Kd.heap_int .u8) HR342.out) (upB3 HB.out GE335.out GE347.out GE352.out)))
       rintro e w37 ⟨rfl, hb⟩
       refine ⟨_, rfl, ?_⟩
       replace HO338 := Aside0.mk (Kd.V_below (upV HO338.out) hb)
       replace HO345 := Aside0.mk (Kd.V_below (upV HO345.out) hb)
       replace HO350 := Aside0.mk (Kd.V_below (upV HO350.out) hb)
       replace BK335 := Aside0.mk (blk_below (upK BK335.out) hb)
       replace BK347 := Aside0.mk (blk_below (upK BK347.out) hb)
       replace BK352 := Aside0.mk (blk_below (upK BK352.out) hb)
       replace HB := Aside0.mk (below_step (upB3 HB.out GE335.out GE347.out GE352.out) hb)
       (try clear hb); (try clear hb2); (try clear hk); (try clear hi)
       refine hK.out _ _ ⟨(blk_cell BK335.out 0).trans rfl, (blk_cell BK335.out 1).trans rfl, (blk_cell BK335.out 2).trans rfl, (blk_cell BK347.out 0).trans rfl, (blk_cell BK352.out 0).trans rfl⟩ (fun hHeld => ?_)
       clear hK K
       refine nM 32 ?_; refine pM 4 33 HT_.out ?_; refine pM 5 34 HT_.out ?_; refine pM 6 35 HT_.out ?_; refine pM 8 37 HT_.out ?_
       refine oM 7 36 HT_.out (fun K hK => ?_)
       refine gM Try.func25 #[.slice Ao22 t336.length co22] ?_
       with_reducible refine (tree_Row.calls k _ _ t336 t355 _ ?side1 ?side2 A11.out).mono ?_
       (case side1 => exact upC ((Kd.V_reads' HO338.out).2.2))
       (case side2 => exact (Kd.V_reads' HO338.out).2.1)
       rintro e w38 ⟨rfl, hb⟩
       refine ⟨_, rfl, ?_⟩
       replace HO338 := Aside0.mk (Kd.V_below (upV HO338.out) hb)
       replace HO345 := Aside0.mk (Kd.V_below (upV HO345.out) hb)
       replace HO350 := Aside0.mk (Kd.V_below (upV HO350.out) hb)
       replace BK335 := Aside0.mk (blk_below (upK BK335.out) hb)
       replace BK347 := Aside0.mk (blk_below (upK BK347.out) hb)
       replace BK352 := Aside0.mk (blk_below (upK BK352.out) hb)
       replace HB := Aside0.mk (below_step (upB3 HB.out GE335.out GE347.out GE352.out) hb)
       (try clear hb); (try clear hb2); (try clear hk); (try clear hi)
       refine hK.out _ _ ⟨(blk_cell BK335.out 0).trans rfl, (blk_cell BK335.out 1).trans rfl, (blk_cell BK335.out 2).trans rfl, (blk_cell BK347.out 0).trans rfl, (blk_cell BK352.out 0).trans rfl⟩ (fun hHeld => ?_)
       clear hK K
       refine nM 36 ?_
       refine oM 9 38 HT_.out (fun K hK => ?_)
       refine gM Try.func26 #[.slice Ao22 t336.length co22] ?_
       with_reducible refine (plinthref25_Row.calls k _ _ t336 t356 _ ?side1 ?side2 A12.out).mono ?_
       (case side1 => exact upC ((Kd.V_reads' HO338.out).2.2))
       (case side2 => exact (Kd.V_reads' HO338.out).2.1)
       rintro e w39 ⟨rfl, hb⟩
       refine ⟨_, rfl, ?_⟩
       replace HO338 := Aside0.mk (Kd.V_below (upV HO338.out) hb)
       replace HO345 := Aside0.mk (Kd.V_below (upV HO345.out) hb)
       replace HO350 := Aside0.mk (Kd.V_below (upV HO350.out) hb)
       replace BK335 := Aside0.mk (blk_below (upK BK335.out) hb)
       replace BK347 := Aside0.mk (blk_below (upK BK347.out) hb)
       replace BK352 := Aside0.mk (blk_below (upK BK352.out) hb)
       replace HB := Aside0.mk (below_step (upB3 HB.out GE335.out GE347.out GE352.out) hb)
       (try clear hb); (try clear hb2); (try clear hk); (try clear hi)
       refine hK.out _ _ ⟨(blk_cell BK335.out 0).trans rfl, (blk_cell BK335.out 1).trans rfl, (blk_cell BK335.out 2).trans rfl, (blk_cell BK347.out 0).trans rfl, (blk_cell BK352.out 0).trans rfl⟩ (fun hHeld => ?_)
       clear hK K
       refine nM 38 ?_; refine pM 10 39 HT_.out ?_; refine pM 11 40 HT_.out ?_; refine pM 12 41 HT_.out ?_; refine tM 13 42 HT_.out HW_.out hHeld ?_; refine tM 14 43 HT_.out HW_.out hHeld ?_
       refine oM 15 44 HT_.out (fun K hK => ?_)
       refine gM Try.func27 #[.agg #[.slice Ao25 t343.length co25], .agg #[.slice Ao30 t348.length co30]] ?_
       with_reducible refine (plinthref25_Same.calls k _ _ t343 _ _ t348 true _ ?side1 ?side2 ?side3 ?side4 A14.out).mono ?_
       (case side1 => exact upC ((Kd.V_reads' HO345.out).2.2))
       (case side2 => exact (Kd.V_reads' HO345.out).2.1)
       (case side3 => exact upC ((Kd.V_reads' HO350.out).2.2))
       (case side4 => exact (Kd.V_reads' HO350.out).2.1)
       rintro e w40 ⟨rfl, hb⟩
       refine ⟨_, rfl, ?_⟩
       replace HO338 := Aside0.mk (Kd.V_below (upV HO338.out) hb)
       replace HO345 := Aside0.mk (Kd.V_below (upV HO345.out) hb)
       replace HO350 := Aside0.mk (Kd.V_below (upV HO350.out) hb)
       replace BK335 := Aside0.mk (blk_below (upK BK335.out) hb)
       replace BK347 := Aside0.mk (blk_below (upK BK347.out) hb)
       replace BK352 := Aside0.mk (blk_below (upK BK352.out) hb)
       replace HB := Aside0.mk (below_step (upB3 HB.out GE335.out GE347.out GE352.out) hb)
       (try clear hb); (try clear hb2); (try clear hk); (try clear hi)
       refine hK.out _ _ ⟨(blk_cell BK335.out 0).trans rfl, (blk_cell BK335.out 1).trans rfl, (blk_cell BK335.out 2).trans rfl, (blk_cell BK347.out 0).trans rfl, (blk_cell BK352.out 0).trans rfl⟩ (fun hHeld => ?_)
       clear hK K
       refine nM 44 ?_; refine pM 16 45 HT_.out ?_; refine pM 17 46 HT_.out ?_; refine pM 18 47 HT_.out ?_; refine pM 19 48 HT_.out ?_; refine pM 20 49 HT_.out ?_; refine pM 21 50 HT_.out ?_; refine pM 22 51 HT_.out ?_
       refine oM 23 52 HT_.out (fun K hK => ?_)
       refine gM Try.func19 #[] ?_
       with_reducible refine (plinthlaw25_awake.calls k  t358 _ A17.out).mono ?_
       rintro e w41 ⟨rfl, hb⟩
       refine ⟨_, rfl, ?_⟩
       replace HO338 := Aside0.mk (Kd.V_below (upV HO338.out) hb)
       replace HO345 := Aside0.mk (Kd.V_below (upV HO345.out) hb)
       replace HO350 := Aside0.mk (Kd.V_below (upV HO350.out) hb)
       replace BK335 := Aside0.mk (blk_below (upK BK335.out) hb)
       replace BK347 := Aside0.mk (blk_below (upK BK347.out) hb)
       replace BK352 := Aside0.mk (blk_below (upK BK352.out) hb)
       replace HB := Aside0.mk (below_step (upB3 HB.out GE335.out GE347.out GE352.out) hb)
       (try clear hb); (try clear hb2); (try clear hk); (try clear hi)
       refine hK.out _ _ ⟨(blk_cell BK335.out 0).trans rfl, (blk_cell BK335.out 1).trans rfl, (blk_cell BK335.out 2).trans rfl, (blk_cell BK347.out 0).trans rfl, (blk_cell BK352.out 0).trans rfl⟩ (fun hHeld => ?_)
       clear hK K
       refine nM 52 ?_; refine pM 24 53 HT_.out ?_; refine pM 25 4 HT_.out ?_
       refine done_ (done_of HT_.out (by kernel_rfl)) ?_
       try go_wp2
       go_ret
       exact ⟨by first | rfl | (simp [errW_none, errW_some] <;> rfl) | (simp [*, errW_none, errW_some] <;> rfl), upB3 HB.out GE335.out GE347.out GE352.out⟩
      ·rw [if_neg c16] at H
       have c16b0 : (t346 == t351) = false := beq_eq_false_iff_ne.mpr c16
       have c16b1 : (t346 != t351) = true := bne_iff_ne.mpr c16
       obtain rfl := Option.some.inj H
       go_enter Try.func4, Try.ntmps4
       try go_wp2_with (first | ((with_reducible refine gate_dst (N := 2) rfl ?_); refine box_event ?hg (N := 2) ?hd (cs := #[.int .i64 a0_0, .int .i64 a0_1, .slice A0_2 l0_2.length c0_2]) (t := 39) ?hr ?_; (case hd => rfl); (case hg => rfl); (case hr => first | (go_simp; done) | (go_simp; rfl)); intro gb335 hg w42 hbox hb; have BK335 := Aside0.mk (hbox); have GW335 := Aside0.mk ((by rw [hg]; exact (below_size (upB0 HB.out)) : w.heap.size ≤ gb335)); have GE335 := Aside0.mk ((by rw [hg]; exact (below_size (upB0 HB.out)) : w.heap.size ≤ gb335)); replace HB := Aside0.mk (below_step (upB0 HB.out) hb); clear hb hbox hg) | ((with_reducible refine gate_callee (f := 20) rfl ?_); refine goesL_ (some 10) rfl rfl Try.func20 (by kernel_rfl) rfl #[.slice A1 l1.length c1] rfl argA ?_; (with_reducible refine (plinthlaw25_few.calls (fun k_ => k_ < w.heap.size) _ _ l1 t336 _ ?side1 A3.out).mono ?_); (case side1 => exact Kd.V_mk HC1.out (Kd.F_below (Kd.C_F (Kd.heap_int .u32) HR1.out) (upB1 HB.out GE335.out))); rintro e w43 ⟨v337, rfl, ho0, hb⟩; refine ⟨_, rfl, ?_⟩; have HO338 := Aside0.mk (Kd.V_lower (Kd.V_mono (ok' := fun k_ => k_ ≠ gb335) ho0 (fun k_ hk_ => Or.elim hk_ (fun hs_ => fun e_ => Nat.not_le.2 hs_ (by rw [e_]; exact GW335.out)) (fun hn_ => (Kd.freshB (upK BK335.out) k_ hn_)))) (below_size (upB1 HB.out GE335.out))); replace BK335 := Aside0.mk (blk_below (upK BK335.out) hb); replace HB := Aside0.mk (below_step (upB1 HB.out GE335.out) hb); (try clear hb); (try clear hb2); (try clear hk); (try clear hi); (try clear ho0); obtain ⟨hcz44_0, hcz44_1, hcz44_2, hfz44_0, hfz44_1, hfz44_2⟩ := cells3 BK335.out; have q45 : (5000 : Int) ≤ ((l0_2.length : Int) : Int) := of_decide_eq_true (by first | (with_reducible assumption) | assumption); obtain ⟨i045, hi045, _, hsz45, _⟩ := info_parts info5; have hroom45 : l0_2.length ≤ c0_2 := HC0_2.out; have hC45 : Kd.C (Kd.int .u8) _ A0_2 l0_2.length l0_2 := HR0_2.out; have hcut45 := cut_to (P := Try.prog) 37 5 .i64 Try.underlying37 hi045 A0_2 l0_2.length c0_2 5000 (by omega) q45 hroom45; have hr45 := Kd.C_take (m := 5000) hC45 (by omega); have hy45 : y339.length = (5000 : Int).toNat := (by rw [Ny339.out, List.length_take]; omega); rw [← Ny339.out] at hr45; rw [← hy45] at hcut45; have HR342 := Aside0.mk hr45; have HC342 := Aside0.mk (show y339.length ≤ c0_2 from by omega); clear hr45 hC45 hroom45 hi045 hsz45; have KY45 := Aside0.mk hy45; clear hy45; replace q45 := eq_true q45; obtain ⟨Ao46, co46, eo46⟩ := Kd.V_slice HO338.out; subst eo46) | ((with_reducible refine gate_callee (f := 21) rfl ?_); refine goesL_ (some 21) rfl rfl Try.func21 (by kernel_rfl) rfl #[.slice Ao46 t336.length co46] rfl argA ?_; (with_reducible refine (tree_Make.calls k _ _ t336 t343 t346 _ ?side1 ?side2 A6.out).mono ?_); (case side1 => refine (Kd.V_reads' (e := 25) (base := w.heap.size) (ok := fun k_ => k_ ≠ gb335) (n := t336.length) (c := co46) ?_).2.2; exact (by refine upV ?_; exact (fV1 (Kd.V_mono HO338.out (fun k_ hk => (⟨hk, hk⟩ : _ ∧ k_ ≠ gb335)))))); (case side2 => exact (Kd.V_reads' HO338.out).2.1); rintro e w47 ⟨v344, rfl, ho0, hb⟩; refine ⟨_, rfl, ?_⟩; replace HO338 := Aside0.mk (Kd.V_below (by refine upV ?_; exact (fV1 (Kd.V_mono HO338.out (fun k_ hk => (⟨hk, hk⟩ : _ ∧ k_ ≠ gb335))))) hb); have HO345 := Aside0.mk (Kd.V_lower (Kd.V_mono (ok' := fun k_ => k_ ≠ gb335) ho0 (fun k_ hk_ => (Kd.freshB (g := gb335) (o := .cells #[.int .i64 a0_0, .int .i64 a0_1, .slice A0_2 y339.length c0_2] 39 (0, 0)) (by refine upK ?_; refine blk_put (cs := #[.int .i64 a0_0, .int .i64 a0_1, .slice A0_2 l0_2.length c0_2]) ?_ 2 _ rfl; refine upK ?_; exact BK335.out) k_ hk_))) (below_size (upB1 HB.out GE335.out))); replace BK335 := Aside0.mk (blk_below (g := gb335) (o := .cells #[.int .i64 a0_0, .int .i64 a0_1, .slice A0_2 y339.length c0_2] 39 (0, 0)) (by refine upK ?_; refine blk_put (cs := #[.int .i64 a0_0, .int .i64 a0_1, .slice A0_2 l0_2.length c0_2]) ?_ 2 _ rfl; refine upK ?_; exact BK335.out) hb); replace HB := Aside0.mk (below_step (upB1 HB.out GE335.out) hb); (try clear hb); (try clear hb2); (try clear hk); (try clear hi); (try clear ho0)) | ((with_reducible refine gate_dst (N := 5) rfl ?_); refine box_event ?hg (N := 5) ?hd (cs := #[.slice none 0 0]) (t := 24) ?hr ?_; (case hd => rfl); (case hg => rfl); (case hr => first | (go_simp; done) | (go_simp; rfl)); intro gb347 hg w48 hbox hb; replace HO338 := Aside0.mk (Kd.V_below (Kd.V_elderB (upV HO338.out) gb347 (Nat.le_of_eq hg.symm)) hb); replace HO345 := Aside0.mk (Kd.V_below (Kd.V_elderB (upV HO345.out) gb347 (Nat.le_of_eq hg.symm)) hb); have BK347 := Aside0.mk (hbox); have GW347 := Aside0.mk ((by rw [hg]; exact (below_size (upB1 HB.out GE335.out)) : w.heap.size ≤ gb347)); have GE347 := Aside0.mk ((by rw [hg]; exact (below_size (upB1 HB.out GE335.out)) : w.heap.size ≤ gb347)); replace HB := Aside0.mk (below_step (upB1 HB.out GE335.out) hb); have NB335_347 := Aside0.mk ((by rw [hg]; exact Nat.ne_of_lt (blk_lt (upK BK335.out)) : gb335 ≠ gb347)); have NB347_335 := Aside0.mk ((by rw [hg]; exact Nat.ne_of_gt (blk_lt (upK BK335.out)) : gb347 ≠ gb335)); replace BK335 := Aside0.mk (blk_below (upK BK335.out) hb); clear hb hbox hg; obtain ⟨Ao49, co49, eo49⟩ := Kd.V_slice HO345.out; subst eo49; have hnb50 := NB347_335.out; have hnc50 := NB335_347.out; obtain ⟨hcz51_0, hfz51_0⟩ := cells1 BK347.out) | ((with_reducible refine gate_callee (f := 22) rfl ?_); refine goesL_ (some 26) rfl rfl Try.func22 (by kernel_rfl) rfl #[.slice Ao46 t336.length co46] rfl argA ?_; (with_reducible refine (plinthref25_Make.calls k _ _ t336 t348 t351 _ ?side1 ?side2 A7.out).mono ?_); (case side1 => refine (Kd.V_reads' (e := 25) (base := w.heap.size) (ok := fun k_ => (k_ ≠ gb335 ∧ k_ ≠ gb347)) (n := t336.length) (c := co46) ?_).2.2; exact (by refine upV ?_; exact (fV1 (Kd.V_mono HO338.out (fun k_ hk => (⟨hk, hk.2⟩ : _ ∧ k_ ≠ gb347)))))); (case side2 => exact (Kd.V_reads' HO338.out).2.1); rintro e w52 ⟨v349, rfl, ho0, hb⟩; refine ⟨_, rfl, ?_⟩; replace HO338 := Aside0.mk (Kd.V_below (by refine upV ?_; exact (fV1 (Kd.V_mono HO338.out (fun k_ hk => (⟨hk, hk.2⟩ : _ ∧ k_ ≠ gb347))))) hb); replace HO345 := Aside0.mk (Kd.V_below (by refine upV ?_; exact (fV1 (Kd.V_mono HO345.out (fun k_ hk => (⟨hk, hk.2⟩ : _ ∧ k_ ≠ gb347))))) hb); have HO350 := Aside0.mk (Kd.V_lower (Kd.V_mono (ok' := fun k_ => k_ ≠ gb335 ∧ k_ ≠ gb347) ho0 (fun k_ hk_ => ⟨(Kd.freshB (g := gb335) (o := .cells #[.int .i64 a0_0, .int .i64 a0_1, .slice A0_2 y339.length c0_2] 39 (0, 0)) (by refine upK ?_; refine blk_far ?_ NB335_347.out _; refine upK ?_; exact BK335.out) k_ hk_), (Kd.freshB (g := gb347) (o := .cells #[.slice Ao49 t343.length co49] 24 (0, 0)) (by refine upK ?_; refine blk_put (cs := #[.slice none 0 0]) ?_ 0 _ rfl; refine upK ?_; exact BK347.out) k_ hk_)⟩)) (below_size (upB2 HB.out GE335.out GE347.out))); replace BK335 := Aside0.mk (blk_below (g := gb335) (o := .cells #[.int .i64 a0_0, .int .i64 a0_1, .slice A0_2 y339.length c0_2] 39 (0, 0)) (by refine upK ?_; refine blk_far ?_ NB335_347.out _; refine upK ?_; exact BK335.out) hb); replace BK347 := Aside0.mk (blk_below (g := gb347) (o := .cells #[.slice Ao49 t343.length co49] 24 (0, 0)) (by refine upK ?_; refine blk_put (cs := #[.slice none 0 0]) ?_ 0 _ rfl; refine upK ?_; exact BK347.out) hb); replace HB := Aside0.mk (below_step (upB2 HB.out GE335.out GE347.out) hb); (try clear hb); (try clear hb2); (try clear hk); (try clear hi); (try clear ho0)) | ((with_reducible refine gate_dst (N := 7) rfl ?_); refine box_event ?hg (N := 7) ?hd (cs := #[.slice none 0 0]) (t := 24) ?hr ?_; (case hd => rfl); (case hg => rfl); (case hr => first | (go_simp; done) | (go_simp; rfl)); intro gb352 hg w53 hbox hb; replace HO338 := Aside0.mk (Kd.V_below (Kd.V_elderB (upV HO338.out) gb352 (Nat.le_of_eq hg.symm)) hb); replace HO345 := Aside0.mk (Kd.V_below (Kd.V_elderB (upV HO345.out) gb352 (Nat.le_of_eq hg.symm)) hb); replace HO350 := Aside0.mk (Kd.V_below (Kd.V_elderB (upV HO350.out) gb352 (Nat.le_of_eq hg.symm)) hb); have BK352 := Aside0.mk (hbox); have GW352 := Aside0.mk ((by rw [hg]; exact (below_size (upB2 HB.out GE335.out GE347.out)) : w.heap.size ≤ gb352)); have GE352 := Aside0.mk ((by rw [hg]; exact (below_size (upB2 HB.out GE335.out GE347.out)) : w.heap.size ≤ gb352)); replace HB := Aside0.mk (below_step (upB2 HB.out GE335.out GE347.out) hb); have NB335_352 := Aside0.mk ((by rw [hg]; exact Nat.ne_of_lt (blk_lt (upK BK335.out)) : gb335 ≠ gb352)); have NB352_335 := Aside0.mk ((by rw [hg]; exact Nat.ne_of_gt (blk_lt (upK BK335.out)) : gb352 ≠ gb335)); replace BK335 := Aside0.mk (blk_below (upK BK335.out) hb); have NB347_352 := Aside0.mk ((by rw [hg]; exact Nat.ne_of_lt (blk_lt (upK BK347.out)) : gb347 ≠ gb352)); have NB352_347 := Aside0.mk ((by rw [hg]; exact Nat.ne_of_gt (blk_lt (upK BK347.out)) : gb352 ≠ gb347)); replace BK347 := Aside0.mk (blk_below (upK BK347.out) hb); clear hb hbox hg; obtain ⟨Ao54, co54, eo54⟩ := Kd.V_slice HO350.out; subst eo54; have hnb55 := NB352_335.out; have hnc55 := NB335_352.out; have hnb56 := NB352_347.out; have hnc56 := NB347_352.out; obtain ⟨hcz57_0, hfz57_0⟩ := cells1 BK352.out))
       have n0_ : Aside0 (Kd.V (Kd.int .u32) 25 (w53.setCell ⟨gb352, 0, none⟩ (.slice Ao54 t348.length co54)) w.heap.size (fun k_ => k_ ≠ gb335 ∧ k_ ≠ gb347 ∧ k_ ≠ gb352) (.slice Ao46 t336.length co46) t336) := ⟨by refine upV ?_; exact Kd.V_mono (garV1 (g := gb352) (Kd.V_mono HO338.out (fun k_ hk => (⟨hk, hk.2⟩ : _ ∧ k_ ≠ gb352))) 0 (.slice Ao54 t348.length co54)) (fun _ hk => ⟨hk.1.1.1, ⟨hk.1.1.2, hk.1.2⟩⟩)⟩
       have n1_ : Aside0 (Kd.V (Kd.slice 25 (Kd.int .u32)) 40 (w53.setCell ⟨gb352, 0, none⟩ (.slice Ao54 t348.length co54)) w.heap.size (fun k_ => k_ ≠ gb335 ∧ k_ ≠ gb347 ∧ k_ ≠ gb352) (.slice Ao49 t343.length co49) t343) := ⟨by refine upV ?_; exact Kd.V_mono (garV1 (g := gb352) (Kd.V_mono HO345.out (fun k_ hk => (⟨hk, hk.2⟩ : _ ∧ k_ ≠ gb352))) 0 (.slice Ao54 t348.length co54)) (fun _ hk => ⟨hk.1.1.1, ⟨hk.1.1.2, hk.1.2⟩⟩)⟩
       have n2_ : Aside0 (Kd.V (Kd.slice 25 (Kd.int .u32)) 40 (w53.setCell ⟨gb352, 0, none⟩ (.slice Ao54 t348.length co54)) w.heap.size (fun k_ => k_ ≠ gb335 ∧ k_ ≠ gb347 ∧ k_ ≠ gb352) (.slice Ao54 t348.length co54) t348) := ⟨by refine upV ?_; exact Kd.V_mono (garV1 (g := gb352) (Kd.V_mono HO350.out (fun k_ hk => (⟨hk, hk.2⟩ : _ ∧ k_ ≠ gb352))) 0 (.slice Ao54 t348.length co54)) (fun _ hk => ⟨hk.1.1.1, ⟨hk.1.1.2, hk.1.2⟩⟩)⟩
       have n3_ : Aside0 ((w53.setCell ⟨gb352, 0, none⟩ (.slice Ao54 t348.length co54)).heap[gb335]? = some (.cells #[.int .i64 a0_0, .int .i64 a0_1, .slice A0_2 y339.length c0_2] 39 (0, 0))) := ⟨by refine upK ?_; refine blk_far ?_ NB335_352.out _; refine upK ?_; exact BK335.out⟩
       have n4_ : Aside0 ((w53.setCell ⟨gb352, 0, none⟩ (.slice Ao54 t348.length co54)).heap[gb347]? = some (.cells #[.slice Ao49 t343.length co49] 24 (0, 0))) := ⟨by refine upK ?_; refine blk_far ?_ NB347_352.out _; refine upK ?_; exact BK347.out⟩
       have n5_ : Aside0 ((w53.setCell ⟨gb352, 0, none⟩ (.slice Ao54 t348.length co54)).heap[gb352]? = some (.cells #[.slice Ao54 t348.length co54] 24 (0, 0))) := ⟨by refine upK ?_; refine blk_put (cs := #[.slice none 0 0]) ?_ 0 _ rfl; refine upK ?_; exact BK352.out⟩
       have n6_ : Aside0 (Below w.heap.size w (w53.setCell ⟨gb352, 0, none⟩ (.slice Ao54 t348.length co54))) := ⟨upB3 HB.out GE335.out GE347.out GE352.out⟩
       (try clear HO338); (try clear HO345); (try clear HO350); (try clear BK335); (try clear BK347); (try clear BK352); (try clear HB)
       generalize (w53.setCell ⟨gb352, 0, none⟩ (.slice Ao54 t348.length co54)) = w58 at n0_ n1_ n2_ n3_ n4_ n5_ n6_ ⊢
       have HO338 := n0_
       have HO345 := n1_
       have HO350 := n2_
       have BK335 := n3_
       have BK347 := n4_
       have BK352 := n5_
       have HB := n6_
       clear n0_ n1_ n2_ n3_ n4_ n5_ n6_
       replace HO338 := Aside0.mk (Kd.V_drew HO338.out)
       replace HO345 := Aside0.mk (Kd.V_drew HO345.out)
       replace HO350 := Aside0.mk (Kd.V_drew HO350.out)
       replace BK335 := Aside0.mk (blk_drew BK335.out)
       replace BK347 := Aside0.mk (blk_drew BK347.out)
       replace BK352 := Aside0.mk (blk_drew BK352.out)
       replace HB := Aside0.mk (below_drew1 HB.out)
       refine start_ (n := 26) (S := fun w' => w'.cell? ⟨gb335, 0, none⟩ = some (.int .i64 a0_0) ∧ w'.cell? ⟨gb335, 1, none⟩ = some (.int .i64 a0_1) ∧ w'.cell? ⟨gb335, 2, none⟩ = some (.slice A0_2 y339.length c0_2) ∧ w'.cell? ⟨gb347, 0, none⟩ = some (.slice Ao49 t343.length co49) ∧ w'.cell? ⟨gb352, 0, none⟩ = some (.slice Ao54 t348.length co54)) (ds := []) (Array.replicate 26 false) (by kernel_rfl) rfl rfl ⟨(blk_cell BK335.out 0).trans rfl, (blk_cell BK335.out 1).trans rfl, (blk_cell BK335.out 2).trans rfl, (blk_cell BK347.out 0).trans rfl, (blk_cell BK352.out 0).trans rfl⟩ (fun hHeld => ?_); refine with_tabW plinthlaw25_TreeMakes.tab6 plinthlaw25_TreeMakes.bits6 (fun HT_ HW_ => ?_)
       generalize w58.drew = w59 at HO338 HO345 HO350 BK335 BK347 BK352 HB hHeld ⊢
       refine tM 0 29 HT_.out HW_.out hHeld ?_; refine tM 2 31 HT_.out HW_.out hHeld ?_
       refine oM 1 30 HT_.out (fun K hK => ?_)
       refine gM Try.func23 #[.agg #[.int .i64 a0_0, .int .i64 a0_1, .slice A0_2 y339.length c0_2]] ?_
       with_reducible refine (tree_Leaf.calls k a0_0 a0_1 (fun k_ => k_ < w.heap.size) _ _ y339 t353 _ ?side1 A8.out).mono ?_
       (case side1 => exact Kd.V_mk HC342.out (Kd.F_below (Kd.C_F (Kd.heap_int .u8) HR342.out) (upB3 HB.out GE335.out GE347.out GE352.out)))
       rintro e w60 ⟨rfl, hb⟩
       refine ⟨_, rfl, ?_⟩
       replace HO338 := Aside0.mk (Kd.V_below (upV HO338.out) hb)
       replace HO345 := Aside0.mk (Kd.V_below (upV HO345.out) hb)
       replace HO350 := Aside0.mk (Kd.V_below (upV HO350.out) hb)
       replace BK335 := Aside0.mk (blk_below (upK BK335.out) hb)
       replace BK347 := Aside0.mk (blk_below (upK BK347.out) hb)
       replace BK352 := Aside0.mk (blk_below (upK BK352.out) hb)
       replace HB := Aside0.mk (below_step (upB3 HB.out GE335.out GE347.out GE352.out) hb)
       (try clear hb); (try clear hb2); (try clear hk); (try clear hi)
       refine hK.out _ _ ⟨(blk_cell BK335.out 0).trans rfl, (blk_cell BK335.out 1).trans rfl, (blk_cell BK335.out 2).trans rfl, (blk_cell BK347.out 0).trans rfl, (blk_cell BK352.out 0).trans rfl⟩ (fun hHeld => ?_)
       clear hK K
       refine nM 30 ?_
       refine oM 3 32 HT_.out (fun K hK => ?_)
       refine gM Try.func24 #[.agg #[.int .i64 a0_0, .int .i64 a0_1, .slice A0_2 y339.length c0_2]] ?_
       with_reducible refine (plinthref25_Leaf.calls k a0_0 a0_1 (fun k_ => k_ < w.heap.size) _ _ y339 t354 _ ?side1 A9.out).mono ?_
       (case side1 => exact Kd.V_mk HC342.out (Kd.F_below (Kd.C_F (Kd.heap_int .u8) HR342.out) (upB3 HB.out GE335.out GE347.out GE352.out)))
       rintro e w61 ⟨rfl, hb⟩
       refine ⟨_, rfl, ?_⟩
       replace HO338 := Aside0.mk (Kd.V_below (upV HO338.out) hb)
       replace HO345 := Aside0.mk (Kd.V_below (upV HO345.out) hb)
       replace HO350 := Aside0.mk (Kd.V_below (upV HO350.out) hb)
       replace BK335 := Aside0.mk (blk_below (upK BK335.out) hb)
       replace BK347 := Aside0.mk (blk_below (upK BK347.out) hb)
       replace BK352 := Aside0.mk (blk_below (upK BK352.out) hb)
       replace HB := Aside0.mk (below_step (upB3 HB.out GE335.out GE347.out GE352.out) hb)
       (try clear hb); (try clear hb2); (try clear hk); (try clear hi)
       refine hK.out _ _ ⟨(blk_cell BK335.out 0).trans rfl, (blk_cell BK335.out 1).trans rfl, (blk_cell BK335.out 2).trans rfl, (blk_cell BK347.out 0).trans rfl, (blk_cell BK352.out 0).trans rfl⟩ (fun hHeld => ?_)
       clear hK K
       refine nM 32 ?_; refine pM 4 33 HT_.out ?_; refine pM 5 34 HT_.out ?_; refine pM 6 35 HT_.out ?_; refine pM 8 37 HT_.out ?_
       refine oM 7 36 HT_.out (fun K hK => ?_)
       refine gM Try.func25 #[.slice Ao46 t336.length co46] ?_
       with_reducible refine (tree_Row.calls k _ _ t336 t355 _ ?side1 ?side2 A11.out).mono ?_
       (case side1 => exact upC ((Kd.V_reads' HO338.out).2.2))
       (case side2 => exact (Kd.V_reads' HO338.out).2.1)
       rintro e w62 ⟨rfl, hb⟩
       refine ⟨_, rfl, ?_⟩
       replace HO338 := Aside0.mk (Kd.V_below (upV HO338.out) hb)
       replace HO345 := Aside0.mk (Kd.V_below (upV HO345.out) hb)
       replace HO350 := Aside0.mk (Kd.V_below (upV HO350.out) hb)
       replace BK335 := Aside0.mk (blk_below (upK BK335.out) hb)
       replace BK347 := Aside0.mk (blk_below (upK BK347.out) hb)
       replace BK352 := Aside0.mk (blk_below (upK BK352.out) hb)
       replace HB := Aside0.mk (below_step (upB3 HB.out GE335.out GE347.out GE352.out) hb)
       (try clear hb); (try clear hb2); (try clear hk); (try clear hi)
       refine hK.out _ _ ⟨(blk_cell BK335.out 0).trans rfl, (blk_cell BK335.out 1).trans rfl, (blk_cell BK335.out 2).trans rfl, (blk_cell BK347.out 0).trans rfl, (blk_cell BK352.out 0).trans rfl⟩ (fun hHeld => ?_)
       clear hK K
       refine nM 36 ?_
       refine oM 9 38 HT_.out (fun K hK => ?_)
       refine gM Try.func26 #[.slice Ao46 t336.length co46] ?_
       with_reducible refine (plinthref25_Row.calls k _ _ t336 t356 _ ?side1 ?side2 A12.out).mono ?_
       (case side1 => exact upC ((Kd.V_reads' HO338.out).2.2))
       (case side2 => exact (Kd.V_reads' HO338.out).2.1)
       rintro e w63 ⟨rfl, hb⟩
       refine ⟨_, rfl, ?_⟩
       replace HO338 := Aside0.mk (Kd.V_below (upV HO338.out) hb)
       replace HO345 := Aside0.mk (Kd.V_below (upV HO345.out) hb)
       replace HO350 := Aside0.mk (Kd.V_below (upV HO350.out) hb)
       replace BK335 := Aside0.mk (blk_below (upK BK335.out) hb)
       replace BK347 := Aside0.mk (blk_below (upK BK347.out) hb)
       replace BK352 := Aside0.mk (blk_below (upK BK352.out) hb)
       replace HB := Aside0.mk (below_step (upB3 HB.out GE335.out GE347.out GE352.out) hb)
       (try clear hb); (try clear hb2); (try clear hk); (try clear hi)
       refine hK.out _ _ ⟨(blk_cell BK335.out 0).trans rfl, (blk_cell BK335.out 1).trans rfl, (blk_cell BK335.out 2).trans rfl, (blk_cell BK347.out 0).trans rfl, (blk_cell BK352.out 0).trans rfl⟩ (fun hHeld => ?_)
       clear hK K
       refine nM 38 ?_; refine pM 10 39 HT_.out ?_; refine pM 11 40 HT_.out ?_; refine pM 12 41 HT_.out ?_; refine tM 13 42 HT_.out HW_.out hHeld ?_; refine tM 14 43 HT_.out HW_.out hHeld ?_
       refine oM 15 44 HT_.out (fun K hK => ?_)
       refine gM Try.func27 #[.agg #[.slice Ao49 t343.length co49], .agg #[.slice Ao54 t348.length co54]] ?_
       with_reducible refine (plinthref25_Same.calls k _ _ t343 _ _ t348 true _ ?side1 ?side2 ?side3 ?side4 A14.out).mono ?_
       (case side1 => exact upC ((Kd.V_reads' HO345.out).2.2))
       (case side2 => exact (Kd.V_reads' HO345.out).2.1)
       (case side3 => exact upC ((Kd.V_reads' HO350.out).2.2))
       (case side4 => exact (Kd.V_reads' HO350.out).2.1)
       rintro e w64 ⟨rfl, hb⟩
       refine ⟨_, rfl, ?_⟩
       replace HO338 := Aside0.mk (Kd.V_below (upV HO338.out) hb)
       replace HO345 := Aside0.mk (Kd.V_below (upV HO345.out) hb)
       replace HO350 := Aside0.mk (Kd.V_below (upV HO350.out) hb)
       replace BK335 := Aside0.mk (blk_below (upK BK335.out) hb)
       replace BK347 := Aside0.mk (blk_below (upK BK347.out) hb)
       replace BK352 := Aside0.mk (blk_below (upK BK352.out) hb)
       replace HB := Aside0.mk (below_step (upB3 HB.out GE335.out GE347.out GE352.out) hb)
       (try clear hb); (try clear hb2); (try clear hk); (try clear hi)
       refine hK.out _ _ ⟨(blk_cell BK335.out 0).trans rfl, (blk_cell BK335.out 1).trans rfl, (blk_cell BK335.out 2).trans rfl, (blk_cell BK347.out 0).trans rfl, (blk_cell BK352.out 0).trans rfl⟩ (fun hHeld => ?_)
       clear hK K
       refine nM 44 ?_; refine pM 16 45 HT_.out ?_; refine pM 17 46 HT_.out ?_; refine pM 18 47 HT_.out ?_; refine pM 19 48 HT_.out ?_; refine pM 20 49 HT_.out ?_; refine pM 21 50 HT_.out ?_; refine pM 22 51 HT_.out ?_; refine uM 23 52 HT_.out ?_; refine pM 24 53 HT_.out ?_; refine pM 25 4 HT_.out ?_
       refine done_ (done_of HT_.out (by kernel_rfl)) ?_
       try go_wp2
       go_ret
       exact ⟨by first | rfl | (simp [errW_none, errW_some] <;> rfl) | (simp [*, errW_none, errW_some] <;> rfl), upB3 HB.out GE335.out GE347.out GE352.out⟩
     ·replace c15 := Bool.eq_false_iff.mpr c15
      subst c15
      have H1 : (some false) = some r := by rw [if_neg (show ¬ (false = true) by decide)] at H; exact H
      clear H
      have H := H1
      clear H1
      obtain rfl := Option.some.inj H
      go_enter Try.func4, Try.ntmps4
      try go_wp2_with (first | ((with_reducible refine gate_dst (N := 2) rfl ?_); refine box_event ?hg (N := 2) ?hd (cs := #[.int .i64 a0_0, .int .i64 a0_1, .slice A0_2 l0_2.length c0_2]) (t := 39) ?hr ?_; (case hd => rfl); (case hg => rfl); (case hr => first | (go_simp; done) | (go_simp; rfl)); intro gb335 hg w65 hbox hb; have BK335 := Aside0.mk (hbox); have GW335 := Aside0.mk ((by rw [hg]; exact (below_size (upB0 HB.out)) : w.heap.size ≤ gb335)); have GE335 := Aside0.mk ((by rw [hg]; exact (below_size (upB0 HB.out)) : w.heap.size ≤ gb335)); replace HB := Aside0.mk (below_step (upB0 HB.out) hb); clear hb hbox hg) | ((with_reducible refine gate_callee (f := 20) rfl ?_); refine goesL_ (some 10) rfl rfl Try.func20 (by kernel_rfl) rfl #[.slice A1 l1.length c1] rfl argA ?_; (with_reducible refine (plinthlaw25_few.calls (fun k_ => k_ < w.heap.size) _ _ l1 t336 _ ?side1 A3.out).mono ?_); (case side1 => exact Kd.V_mk HC1.out (Kd.F_below (Kd.C_F (Kd.heap_int .u32) HR1.out) (upB1 HB.out GE335.out))); rintro e w66 ⟨v337, rfl, ho0, hb⟩; refine ⟨_, rfl, ?_⟩; have HO338 := Aside0.mk (Kd.V_lower (Kd.V_mono (ok' := fun k_ => k_ ≠ gb335) ho0 (fun k_ hk_ => Or.elim hk_ (fun hs_ => fun e_ => Nat.not_le.2 hs_ (by rw [e_]; exact GW335.out)) (fun hn_ => (Kd.freshB (upK BK335.out) k_ hn_)))) (below_size (upB1 HB.out GE335.out))); replace BK335 := Aside0.mk (blk_below (upK BK335.out) hb); replace HB := Aside0.mk (below_step (upB1 HB.out GE335.out) hb); (try clear hb); (try clear hb2); (try clear hk); (try clear hi); (try clear ho0); obtain ⟨hcz67_0, hcz67_1, hcz67_2, hfz67_0, hfz67_1, hfz67_2⟩ := cells3 BK335.out; have q68 : (5000 : Int) ≤ ((l0_2.length : Int) : Int) := of_decide_eq_true (by first | (with_reducible assumption) | assumption); obtain ⟨i068, hi068, _, hsz68, _⟩ := info_parts info5; have hroom68 : l0_2.length ≤ c0_2 := HC0_2.out; have hC68 : Kd.C (Kd.int .u8) _ A0_2 l0_2.length l0_2 := HR0_2.out; have hcut68 := cut_to (P := Try.prog) 37 5 .i64 Try.underlying37 hi068 A0_2 l0_2.length c0_2 5000 (by omega) q68 hroom68; have hr68 := Kd.C_take (m := 5000) hC68 (by omega); have hy68 : y339.length = (5000 : Int).toNat := (by rw [Ny339.out, List.length_take]; omega); rw [← Ny339.out] at hr68; rw [← hy68] at hcut68; have HR342 := Aside0.mk hr68; have HC342 := Aside0.mk (show y339.length ≤ c0_2 from by omega); clear hr68 hC68 hroom68 hi068 hsz68; have KY68 := Aside0.mk hy68; clear hy68; replace q68 := eq_true q68; obtain ⟨Ao69, co69, eo69⟩ := Kd.V_slice HO338.out; subst eo69) | ((with_reducible refine gate_callee (f := 21) rfl ?_); refine goesL_ (some 21) rfl rfl Try.func21 (by kernel_rfl) rfl #[.slice Ao69 t336.length co69] rfl argA ?_; (with_reducible refine (tree_Make.calls k _ _ t336 t343 t346 _ ?side1 ?side2 A6.out).mono ?_); (case side1 => refine (Kd.V_reads' (e := 25) (base := w.heap.size) (ok := fun k_ => k_ ≠ gb335) (n := t336.length) (c := co69) ?_).2.2; exact (by refine upV ?_; exact (fV1 (Kd.V_mono HO338.out (fun k_ hk => (⟨hk, hk⟩ : _ ∧ k_ ≠ gb335)))))); (case side2 => exact (Kd.V_reads' HO338.out).2.1); rintro e w70 ⟨v344, rfl, ho0, hb⟩; refine ⟨_, rfl, ?_⟩; replace HO338 := Aside0.mk (Kd.V_below (by refine upV ?_; exact (fV1 (Kd.V_mono HO338.out (fun k_ hk => (⟨hk, hk⟩ : _ ∧ k_ ≠ gb335))))) hb); have HO345 := Aside0.mk (Kd.V_lower (Kd.V_mono (ok' := fun k_ => k_ ≠ gb335) ho0 (fun k_ hk_ => (Kd.freshB (g := gb335) (o := .cells #[.int .i64 a0_0, .int .i64 a0_1, .slice A0_2 y339.length c0_2] 39 (0, 0)) (by refine upK ?_; refine blk_put (cs := #[.int .i64 a0_0, .int .i64 a0_1, .slice A0_2 l0_2.length c0_2]) ?_ 2 _ rfl; refine upK ?_; exact BK335.out) k_ hk_))) (below_size (upB1 HB.out GE335.out))); replace BK335 := Aside0.mk (blk_below (g := gb335) (o := .cells #[.int .i64 a0_0, .int .i64 a0_1, .slice A0_2 y339.length c0_2] 39 (0, 0)) (by refine upK ?_; refine blk_put (cs := #[.int .i64 a0_0, .int .i64 a0_1, .slice A0_2 l0_2.length c0_2]) ?_ 2 _ rfl; refine upK ?_; exact BK335.out) hb); replace HB := Aside0.mk (below_step (upB1 HB.out GE335.out) hb); (try clear hb); (try clear hb2); (try clear hk); (try clear hi); (try clear ho0)) | ((with_reducible refine gate_dst (N := 5) rfl ?_); refine box_event ?hg (N := 5) ?hd (cs := #[.slice none 0 0]) (t := 24) ?hr ?_; (case hd => rfl); (case hg => rfl); (case hr => first | (go_simp; done) | (go_simp; rfl)); intro gb347 hg w71 hbox hb; replace HO338 := Aside0.mk (Kd.V_below (Kd.V_elderB (upV HO338.out) gb347 (Nat.le_of_eq hg.symm)) hb); replace HO345 := Aside0.mk (Kd.V_below (Kd.V_elderB (upV HO345.out) gb347 (Nat.le_of_eq hg.symm)) hb); have BK347 := Aside0.mk (hbox); have GW347 := Aside0.mk ((by rw [hg]; exact (below_size (upB1 HB.out GE335.out)) : w.heap.size ≤ gb347)); have GE347 := Aside0.mk ((by rw [hg]; exact (below_size (upB1 HB.out GE335.out)) : w.heap.size ≤ gb347)); replace HB := Aside0.mk (below_step (upB1 HB.out GE335.out) hb); have NB335_347 := Aside0.mk ((by rw [hg]; exact Nat.ne_of_lt (blk_lt (upK BK335.out)) : gb335 ≠ gb347)); have NB347_335 := Aside0.mk ((by rw [hg]; exact Nat.ne_of_gt (blk_lt (upK BK335.out)) : gb347 ≠ gb335)); replace BK335 := Aside0.mk (blk_below (upK BK335.out) hb); clear hb hbox hg; obtain ⟨Ao72, co72, eo72⟩ := Kd.V_slice HO345.out; subst eo72; have hnb73 := NB347_335.out; have hnc73 := NB335_347.out; obtain ⟨hcz74_0, hfz74_0⟩ := cells1 BK347.out) | ((with_reducible refine gate_callee (f := 22) rfl ?_); refine goesL_ (some 26) rfl rfl Try.func22 (by kernel_rfl) rfl #[.slice Ao69 t336.length co69] rfl argA ?_; (with_reducible refine (plinthref25_Make.calls k _ _ t336 t348 t351 _ ?side1 ?side2 A7.out).mono ?_); (case side1 => refine (Kd.V_reads' (e := 25) (base := w.heap.size) (ok := fun k_ => (k_ ≠ gb335 ∧ k_ ≠ gb347)) (n := t336.length) (c := co69) ?_).2.2; exact (by refine upV ?_; exact (fV1 (Kd.V_mono HO338.out (fun k_ hk => (⟨hk, hk.2⟩ : _ ∧ k_ ≠ gb347)))))); (case side2 => exact (Kd.V_reads' HO338.out).2.1); rintro e w75 ⟨v349, rfl, ho0, hb⟩; refine ⟨_, rfl, ?_⟩; replace HO338 := Aside0.mk (Kd.V_below (by refine upV ?_; exact (fV1 (Kd.V_mono HO338.out (fun k_ hk => (⟨hk, hk.2⟩ : _ ∧ k_ ≠ gb347))))) hb); replace HO345 := Aside0.mk (Kd.V_below (by refine upV ?_; exact (fV1 (Kd.V_mono HO345.out (fun k_ hk => (⟨hk, hk.2⟩ : _ ∧ k_ ≠ gb347))))) hb); have HO350 := Aside0.mk (Kd.V_lower (Kd.V_mono (ok' := fun k_ => k_ ≠ gb335 ∧ k_ ≠ gb347) ho0 (fun k_ hk_ => ⟨(Kd.freshB (g := gb335) (o := .cells #[.int .i64 a0_0, .int .i64 a0_1, .slice A0_2 y339.length c0_2] 39 (0, 0)) (by refine upK ?_; refine blk_far ?_ NB335_347.out _; refine upK ?_; exact BK335.out) k_ hk_), (Kd.freshB (g := gb347) (o := .cells #[.slice Ao72 t343.length co72] 24 (0, 0)) (by refine upK ?_; refine blk_put (cs := #[.slice none 0 0]) ?_ 0 _ rfl; refine upK ?_; exact BK347.out) k_ hk_)⟩)) (below_size (upB2 HB.out GE335.out GE347.out))); replace BK335 := Aside0.mk (blk_below (g := gb335) (o := .cells #[.int .i64 a0_0, .int .i64 a0_1, .slice A0_2 y339.length c0_2] 39 (0, 0)) (by refine upK ?_; refine blk_far ?_ NB335_347.out _; refine upK ?_; exact BK335.out) hb); replace BK347 := Aside0.mk (blk_below (g := gb347) (o := .cells #[.slice Ao72 t343.length co72] 24 (0, 0)) (by refine upK ?_; refine blk_put (cs := #[.slice none 0 0]) ?_ 0 _ rfl; refine upK ?_; exact BK347.out) hb); replace HB := Aside0.mk (below_step (upB2 HB.out GE335.out GE347.out) hb); (try clear hb); (try clear hb2); (try clear hk); (try clear hi); (try clear ho0)) | ((with_reducible refine gate_dst (N := 7) rfl ?_); refine box_event ?hg (N := 7) ?hd (cs := #[.slice none 0 0]) (t := 24) ?hr ?_; (case hd => rfl); (case hg => rfl); (case hr => first | (go_simp; done) | (go_simp; rfl)); intro gb352 hg w76 hbox hb; replace HO338 := Aside0.mk (Kd.V_below (Kd.V_elderB (upV HO338.out) gb352 (Nat.le_of_eq hg.symm)) hb); replace HO345 := Aside0.mk (Kd.V_below (Kd.V_elderB (upV HO345.out) gb352 (Nat.le_of_eq hg.symm)) hb); replace HO350 := Aside0.mk (Kd.V_below (Kd.V_elderB (upV HO350.out) gb352 (Nat.le_of_eq hg.symm)) hb); have BK352 := Aside0.mk (hbox); have GW352 := Aside0.mk ((by rw [hg]; exact (below_size (upB2 HB.out GE335.out GE347.out)) : w.heap.size ≤ gb352)); have GE352 := Aside0.mk ((by rw [hg]; exact (below_size (upB2 HB.out GE335.out GE347.out)) : w.heap.size ≤ gb352)); replace HB := Aside0.mk (below_step (upB2 HB.out GE335.out GE347.out) hb); have NB335_352 := Aside0.mk ((by rw [hg]; exact Nat.ne_of_lt (blk_lt (upK BK335.out)) : gb335 ≠ gb352)); have NB352_335 := Aside0.mk ((by rw [hg]; exact Nat.ne_of_gt (blk_lt (upK BK335.out)) : gb352 ≠ gb335)); replace BK335 := Aside0.mk (blk_below (upK BK335.out) hb); have NB347_352 := Aside0.mk ((by rw [hg]; exact Nat.ne_of_lt (blk_lt (upK BK347.out)) : gb347 ≠ gb352)); have NB352_347 := Aside0.mk ((by rw [hg]; exact Nat.ne_of_gt (blk_lt (upK BK347.out)) : gb352 ≠ gb347)); replace BK347 := Aside0.mk (blk_below (upK BK347.out) hb); clear hb hbox hg; obtain ⟨Ao77, co77, eo77⟩ := Kd.V_slice HO350.out; subst eo77; have hnb78 := NB352_335.out; have hnc78 := NB335_352.out; have hnb79 := NB352_347.out; have hnc79 := NB347_352.out; obtain ⟨hcz80_0, hfz80_0⟩ := cells1 BK352.out))
      have n0_ : Aside0 (Kd.V (Kd.int .u32) 25 (w76.setCell ⟨gb352, 0, none⟩ (.slice Ao77 t348.length co77)) w.heap.size (fun k_ => k_ ≠ gb335 ∧ k_ ≠ gb347 ∧ k_ ≠ gb352) (.slice Ao69 t336.length co69) t336) := ⟨by refine upV ?_; exact Kd.V_mono (garV1 (g := gb352) (Kd.V_mono HO338.out (fun k_ hk => (⟨hk, hk.2⟩ : _ ∧ k_ ≠ gb352))) 0 (.slice Ao77 t348.length co77)) (fun _ hk => ⟨hk.1.1.1, ⟨hk.1.1.2, hk.1.2⟩⟩)⟩
      have n1_ : Aside0 (Kd.V (Kd.slice 25 (Kd.int .u32)) 40 (w76.setCell ⟨gb352, 0, none⟩ (.slice Ao77 t348.length co77)) w.heap.size (fun k_ => k_ ≠ gb335 ∧ k_ ≠ gb347 ∧ k_ ≠ gb352) (.slice Ao72 t343.length co72) t343) := ⟨by refine upV ?_; exact Kd.V_mono (garV1 (g := gb352) (Kd.V_mono HO345.out (fun k_ hk => (⟨hk, hk.2⟩ : _ ∧ k_ ≠ gb352))) 0 (.slice Ao77 t348.length co77)) (fun _ hk => ⟨hk.1.1.1, ⟨hk.1.1.2, hk.1.2⟩⟩)⟩
      have n2_ : Aside0 (Kd.V (Kd.slice 25 (Kd.int .u32)) 40 (w76.setCell ⟨gb352, 0, none⟩ (.slice Ao77 t348.length co77)) w.heap.size (fun k_ => k_ ≠ gb335 ∧ k_ ≠ gb347 ∧ k_ ≠ gb352) (.slice Ao77 t348.length co77) t348) := ⟨by refine upV ?_; exact Kd.V_mono (garV1 (g := gb352) (Kd.V_mono HO350.out (fun k_ hk => (⟨hk, hk.2⟩ : _ ∧ k_ ≠ gb352))) 0 (.slice Ao77 t348.length co77)) (fun _ hk => ⟨hk.1.1.1, ⟨hk.1.1.2, hk.1.2⟩⟩)⟩
      have n3_ : Aside0 ((w76.setCell ⟨gb352, 0, none⟩ (.slice Ao77 t348.length co77)).heap[gb335]? = some (.cells #[.int .i64 a0_0, .int .i64 a0_1, .slice A0_2 y339.length c0_2] 39 (0, 0))) := ⟨by refine upK ?_; refine blk_far ?_ NB335_352.out _; refine upK ?_; exact BK335.out⟩
      have n4_ : Aside0 ((w76.setCell ⟨gb352, 0, none⟩ (.slice Ao77 t348.length co77)).heap[gb347]? = some (.cells #[.slice Ao72 t343.length co72] 24 (0, 0))) := ⟨by refine upK ?_; refine blk_far ?_ NB347_352.out _; refine upK ?_; exact BK347.out⟩
      have n5_ : Aside0 ((w76.setCell ⟨gb352, 0, none⟩ (.slice Ao77 t348.length co77)).heap[gb352]? = some (.cells #[.slice Ao77 t348.length co77] 24 (0, 0))) := ⟨by refine upK ?_; refine blk_put (cs := #[.slice none 0 0]) ?_ 0 _ rfl; refine upK ?_; exact BK352.out⟩
      have n6_ : Aside0 (Below w.heap.size w (w76.setCell ⟨gb352, 0, none⟩ (.slice Ao77 t348.length co77))) := ⟨upB3 HB.out GE335.out GE347.out GE352.out⟩
      (try clear HO338); (try clear HO345); (try clear HO350); (try clear BK335); (try clear BK347); (try clear BK352); (try clear HB)
      generalize (w76.setCell ⟨gb352, 0, none⟩ (.slice Ao77 t348.length co77)) = w81 at n0_ n1_ n2_ n3_ n4_ n5_ n6_ ⊢
      have HO338 := n0_
      have HO345 := n1_
      have HO350 := n2_
      have BK335 := n3_
      have BK347 := n4_
      have BK352 := n5_
      have HB := n6_
      clear n0_ n1_ n2_ n3_ n4_ n5_ n6_
      replace HO338 := Aside0.mk (Kd.V_drew HO338.out)
      replace HO345 := Aside0.mk (Kd.V_drew HO345.out)
      replace HO350 := Aside0.mk (Kd.V_drew HO350.out)
      replace BK335 := Aside0.mk (blk_drew BK335.out)
      replace BK347 := Aside0.mk (blk_drew BK347.out)
      replace BK352 := Aside0.mk (blk_drew BK352.out)
      replace HB := Aside0.mk (below_drew1 HB.out)
      refine start_ (n := 26) (S := fun w' => w'.cell? ⟨gb335, 0, none⟩ = some (.int .i64 a0_0) ∧ w'.cell? ⟨gb335, 1, none⟩ = some (.int .i64 a0_1) ∧ w'.cell? ⟨gb335, 2, none⟩ = some (.slice A0_2 y339.length c0_2) ∧ w'.cell? ⟨gb347, 0, none⟩ = some (.slice Ao72 t343.length co72) ∧ w'.cell? ⟨gb352, 0, none⟩ = some (.slice Ao77 t348.length co77)) (ds := []) (Array.replicate 26 false) (by kernel_rfl) rfl rfl ⟨(blk_cell BK335.out 0).trans rfl, (blk_cell BK335.out 1).trans rfl, (blk_cell BK335.out 2).trans rfl, (blk_cell BK347.out 0).trans rfl, (blk_cell BK352.out 0).trans rfl⟩ (fun hHeld => ?_); refine with_tabW plinthlaw25_TreeMakes.tab6 plinthlaw25_TreeMakes.bits6 (fun HT_ HW_ => ?_)
      generalize w81.drew = w82 at HO338 HO345 HO350 BK335 BK347 BK352 HB hHeld ⊢
      refine tM 0 29 HT_.out HW_.out hHeld ?_; refine tM 2 31 HT_.out HW_.out hHeld ?_
      refine oM 1 30 HT_.out (fun K hK => ?_)
      refine gM Try.func23 #[.agg #[.int .i64 a0_0, .int .i64 a0_1, .slice A0_2 y339.length c0_2]] ?_
      with_reducible refine (tree_Leaf.calls k a0_0 a0_1 (fun k_ => k_ < w.heap.size) _ _ y339 t353 _ ?side1 A8.out).mono ?_
      (case side1 => exact Kd.V_mk HC342.out (Kd.F_below (Kd.C_F (Kd.heap_int .u8) HR342.out) (upB3 HB.out GE335.out GE347.out GE352.out)))
      rintro e w83 ⟨rfl, hb⟩
      refine ⟨_, rfl, ?_⟩
      replace HO338 := Aside0.mk (Kd.V_below (upV HO338.out) hb)
      replace HO345 := Aside0.mk (Kd.V_below (upV HO345.out) hb)
      replace HO350 := Aside0.mk (Kd.V_below (upV HO350.out) hb)
      replace BK335 := Aside0.mk (blk_below (upK BK335.out) hb)
      replace BK347 := Aside0.mk (blk_below (upK BK347.out) hb)
      replace BK352 := Aside0.mk (blk_below (upK BK352.out) hb)
      replace HB := Aside0.mk (below_step (upB3 HB.out GE335.out GE347.out GE352.out) hb)
      (try clear hb); (try clear hb2); (try clear hk); (try clear hi)
      refine hK.out _ _ ⟨(blk_cell BK335.out 0).trans rfl, (blk_cell BK335.out 1).trans rfl, (blk_cell BK335.out 2).trans rfl, (blk_cell BK347.out 0).trans rfl, (blk_cell BK352.out 0).trans rfl⟩ (fun hHeld => ?_)
      clear hK K
      refine nM 30 ?_
      refine oM 3 32 HT_.out (fun K hK => ?_)
      refine gM Try.func24 #[.agg #[.int .i64 a0_0, .int .i64 a0_1, .slice A0_2 y339.length c0_2]] ?_
      with_reducible refine (plinthref25_Leaf.calls k a0_0 a0_1 (fun k_ => k_ < w.heap.size) _ _ y339 t354 _ ?side1 A9.out).mono ?_
      (case side1 => exact Kd.V_mk HC342.out (Kd.F_below (Kd.C_F (Kd.heap_int .u8) HR342.out) (upB3 HB.out GE335.out GE347.out GE352.out)))
      rintro e w84 ⟨rfl, hb⟩
      refine ⟨_, rfl, ?_⟩
      replace HO338 := Aside0.mk (Kd.V_below (upV HO338.out) hb)
      replace HO345 := Aside0.mk (Kd.V_below (upV HO345.out) hb)
      replace HO350 := Aside0.mk (Kd.V_below (upV HO350.out) hb)
      replace BK335 := Aside0.mk (blk_below (upK BK335.out) hb)
      replace BK347 := Aside0.mk (blk_below (upK BK347.out) hb)
      replace BK352 := Aside0.mk (blk_below (upK BK352.out) hb)
      replace HB := Aside0.mk (below_step (upB3 HB.out GE335.out GE347.out GE352.out) hb)
      (try clear hb); (try clear hb2); (try clear hk); (try clear hi)
      refine hK.out _ _ ⟨(blk_cell BK335.out 0).trans rfl, (blk_cell BK335.out 1).trans rfl, (blk_cell BK335.out 2).trans rfl, (blk_cell BK347.out 0).trans rfl, (blk_cell BK352.out 0).trans rfl⟩ (fun hHeld => ?_)
      clear hK K
      refine nM 32 ?_; refine pM 4 33 HT_.out ?_; refine pM 5 34 HT_.out ?_; refine pM 6 35 HT_.out ?_; refine pM 8 37 HT_.out ?_
      refine oM 7 36 HT_.out (fun K hK => ?_)
      refine gM Try.func25 #[.slice Ao69 t336.length co69] ?_
      with_reducible refine (tree_Row.calls k _ _ t336 t355 _ ?side1 ?side2 A11.out).mono ?_
      (case side1 => exact upC ((Kd.V_reads' HO338.out).2.2))
      (case side2 => exact (Kd.V_reads' HO338.out).2.1)
      rintro e w85 ⟨rfl, hb⟩
      refine ⟨_, rfl, ?_⟩
      replace HO338 := Aside0.mk (Kd.V_below (upV HO338.out) hb)
      replace HO345 := Aside0.mk (Kd.V_below (upV HO345.out) hb)
      replace HO350 := Aside0.mk (Kd.V_below (upV HO350.out) hb)
      replace BK335 := Aside0.mk (blk_below (upK BK335.out) hb)
      replace BK347 := Aside0.mk (blk_below (upK BK347.out) hb)
      replace BK352 := Aside0.mk (blk_below (upK BK352.out) hb)
      replace HB := Aside0.mk (below_step (upB3 HB.out GE335.out GE347.out GE352.out) hb)
      (try clear hb); (try clear hb2); (try clear hk); (try clear hi)
      refine hK.out _ _ ⟨(blk_cell BK335.out 0).trans rfl, (blk_cell BK335.out 1).trans rfl, (blk_cell BK335.out 2).trans rfl, (blk_cell BK347.out 0).trans rfl, (blk_cell BK352.out 0).trans rfl⟩ (fun hHeld => ?_)
      clear hK K
      refine nM 36 ?_
      refine oM 9 38 HT_.out (fun K hK => ?_)
      refine gM Try.func26 #[.slice Ao69 t336.length co69] ?_
      with_reducible refine (plinthref25_Row.calls k _ _ t336 t356 _ ?side1 ?side2 A12.out).mono ?_
      (case side1 => exact upC ((Kd.V_reads' HO338.out).2.2))
      (case side2 => exact (Kd.V_reads' HO338.out).2.1)
      rintro e w86 ⟨rfl, hb⟩
      refine ⟨_, rfl, ?_⟩
      replace HO338 := Aside0.mk (Kd.V_below (upV HO338.out) hb)
      replace HO345 := Aside0.mk (Kd.V_below (upV HO345.out) hb)
      replace HO350 := Aside0.mk (Kd.V_below (upV HO350.out) hb)
      replace BK335 := Aside0.mk (blk_below (upK BK335.out) hb)
      replace BK347 := Aside0.mk (blk_below (upK BK347.out) hb)
      replace BK352 := Aside0.mk (blk_below (upK BK352.out) hb)
      replace HB := Aside0.mk (below_step (upB3 HB.out GE335.out GE347.out GE352.out) hb)
      (try clear hb); (try clear hb2); (try clear hk); (try clear hi)
      refine hK.out _ _ ⟨(blk_cell BK335.out 0).trans rfl, (blk_cell BK335.out 1).trans rfl, (blk_cell BK335.out 2).trans rfl, (blk_cell BK347.out 0).trans rfl, (blk_cell BK352.out 0).trans rfl⟩ (fun hHeld => ?_)
      clear hK K
      refine nM 38 ?_; refine pM 10 39 HT_.out ?_; refine pM 11 40 HT_.out ?_; refine pM 12 41 HT_.out ?_; refine tM 13 42 HT_.out HW_.out hHeld ?_; refine tM 14 43 HT_.out HW_.out hHeld ?_
      refine oM 15 44 HT_.out (fun K hK => ?_)
      refine gM Try.func27 #[.agg #[.slice Ao72 t343.length co72], .agg #[.slice Ao77 t348.length co77]] ?_
      with_reducible refine (plinthref25_Same.calls k _ _ t343 _ _ t348 false _ ?side1 ?side2 ?side3 ?side4 A14.out).mono ?_
      (case side1 => exact upC ((Kd.V_reads' HO345.out).2.2))
      (case side2 => exact (Kd.V_reads' HO345.out).2.1)
      (case side3 => exact upC ((Kd.V_reads' HO350.out).2.2))
      (case side4 => exact (Kd.V_reads' HO350.out).2.1)
      rintro e w87 ⟨rfl, hb⟩
      refine ⟨_, rfl, ?_⟩
      replace HO338 := Aside0.mk (Kd.V_below (upV HO338.out) hb)
      replace HO345 := Aside0.mk (Kd.V_below (upV HO345.out) hb)
      replace HO350 := Aside0.mk (Kd.V_below (upV HO350.out) hb)
      replace BK335 := Aside0.mk (blk_below (upK BK335.out) hb)
      replace BK347 := Aside0.mk (blk_below (upK BK347.out) hb)
      replace BK352 := Aside0.mk (blk_below (upK BK352.out) hb)
      replace HB := Aside0.mk (below_step (upB3 HB.out GE335.out GE347.out GE352.out) hb)
      (try clear hb); (try clear hb2); (try clear hk); (try clear hi)
      refine hK.out _ _ ⟨(blk_cell BK335.out 0).trans rfl, (blk_cell BK335.out 1).trans rfl, (blk_cell BK335.out 2).trans rfl, (blk_cell BK347.out 0).trans rfl, (blk_cell BK352.out 0).trans rfl⟩ (fun hHeld => ?_)
      clear hK K
      refine nM 44 ?_; refine pM 16 45 HT_.out ?_; refine pM 17 46 HT_.out ?_; refine uM 18 47 HT_.out ?_; refine uM 19 48 HT_.out ?_; refine uM 20 49 HT_.out ?_; refine pM 21 50 HT_.out ?_; refine pM 22 51 HT_.out ?_; refine uM 23 52 HT_.out ?_; refine pM 24 53 HT_.out ?_; refine pM 25 4 HT_.out ?_
      refine done_ (done_of HT_.out (by kernel_rfl)) ?_
      try go_wp2
      go_ret
      exact ⟨by first | rfl | (simp [errW_none, errW_some] <;> rfl) | (simp [*, errW_none, errW_some] <;> rfl), upB3 HB.out GE335.out GE347.out GE352.out⟩
    ·rw [if_neg c13] at H
     have c13b0 : (t355 == t356) = false := beq_eq_false_iff_ne.mpr c13
     have c13b1 : (t355 != t356) = true := bne_iff_ne.mpr c13
     obtain rfl := Option.some.inj H
     go_enter Try.func4, Try.ntmps4
     try go_wp2_with (first | ((with_reducible refine gate_dst (N := 2) rfl ?_); refine box_event ?hg (N := 2) ?hd (cs := #[.int .i64 a0_0, .int .i64 a0_1, .slice A0_2 l0_2.length c0_2]) (t := 39) ?hr ?_; (case hd => rfl); (case hg => rfl); (case hr => first | (go_simp; done) | (go_simp; rfl)); intro gb335 hg w88 hbox hb; have BK335 := Aside0.mk (hbox); have GW335 := Aside0.mk ((by rw [hg]; exact (below_size (upB0 HB.out)) : w.heap.size ≤ gb335)); have GE335 := Aside0.mk ((by rw [hg]; exact (below_size (upB0 HB.out)) : w.heap.size ≤ gb335)); replace HB := Aside0.mk (below_step (upB0 HB.out) hb); clear hb hbox hg) | ((with_reducible refine gate_callee (f := 20) rfl ?_); refine goesL_ (some 10) rfl rfl Try.func20 (by kernel_rfl) rfl #[.slice A1 l1.length c1] rfl argA ?_; (with_reducible refine (plinthlaw25_few.calls (fun k_ => k_ < w.heap.size) _ _ l1 t336 _ ?side1 A3.out).mono ?_); (case side1 => exact Kd.V_mk HC1.out (Kd.F_below (Kd.C_F (Kd.heap_int .u32) HR1.out) (upB1 HB.out GE335.out))); rintro e w89 ⟨v337, rfl, ho0, hb⟩; refine ⟨_, rfl, ?_⟩; have HO338 := Aside0.mk (Kd.V_lower (Kd.V_mono (ok' := fun k_ => k_ ≠ gb335) ho0 (fun k_ hk_ => Or.elim hk_ (fun hs_ => fun e_ => Nat.not_le.2 hs_ (by rw [e_]; exact GW335.out)) (fun hn_ => (Kd.freshB (upK BK335.out) k_ hn_)))) (below_size (upB1 HB.out GE335.out))); replace BK335 := Aside0.mk (blk_below (upK BK335.out) hb); replace HB := Aside0.mk (below_step (upB1 HB.out GE335.out) hb); (try clear hb); (try clear hb2); (try clear hk); (try clear hi); (try clear ho0); obtain ⟨hcz90_0, hcz90_1, hcz90_2, hfz90_0, hfz90_1, hfz90_2⟩ := cells3 BK335.out; have q91 : (5000 : Int) ≤ ((l0_2.length : Int) : Int) := of_decide_eq_true (by first | (with_reducible assumption) | assumption); obtain ⟨i091, hi091, _, hsz91, _⟩ := info_parts info5; have hroom91 : l0_2.length ≤ c0_2 := HC0_2.out; have hC91 : Kd.C (Kd.int .u8) _ A0_2 l0_2.length l0_2 := HR0_2.out; have hcut91 := cut_to (P := Try.prog) 37 5 .i64 Try.underlying37 hi091 A0_2 l0_2.length c0_2 5000 (by omega) q91 hroom91; have hr91 := Kd.C_take (m := 5000) hC91 (by omega); have hy91 : y339.length = (5000 : Int).toNat := (by rw [Ny339.out, List.length_take]; omega); rw [← Ny339.out] at hr91; rw [← hy91] at hcut91; have HR342 := Aside0.mk hr91; have HC342 := Aside0.mk (show y339.length ≤ c0_2 from by omega); clear hr91 hC91 hroom91 hi091 hsz91; have KY91 := Aside0.mk hy91; clear hy91; replace q91 := eq_true q91; obtain ⟨Ao92, co92, eo92⟩ := Kd.V_slice HO338.out; subst eo92) | ((with_reducible refine gate_callee (f := 21) rfl ?_); refine goesL_ (some 21) rfl rfl Try.func21 (by kernel_rfl) rfl #[.slice Ao92 t336.length co92] rfl argA ?_; (with_reducible refine (tree_Make.calls k _ _ t336 t343 t346 _ ?side1 ?side2 A6.out).mono ?_); (case side1 => refine (Kd.V_reads' (e := 25) (base := w.heap.size) (ok := fun k_ => k_ ≠ gb335) (n := t336.length) (c := co92) ?_).2.2; exact (by refine upV ?_; exact (fV1 (Kd.V_mono HO338.out (fun k_ hk => (⟨hk, hk⟩ : _ ∧ k_ ≠ gb335)))))); (case side2 => exact (Kd.V_reads' HO338.out).2.1); rintro e w93 ⟨v344, rfl, ho0, hb⟩; refine ⟨_, rfl, ?_⟩; replace HO338 := Aside0.mk (Kd.V_below (by refine upV ?_; exact (fV1 (Kd.V_mono HO338.out (fun k_ hk => (⟨hk, hk⟩ : _ ∧ k_ ≠ gb335))))) hb); have HO345 := Aside0.mk (Kd.V_lower (Kd.V_mono (ok' := fun k_ => k_ ≠ gb335) ho0 (fun k_ hk_ => (Kd.freshB (g := gb335) (o := .cells #[.int .i64 a0_0, .int .i64 a0_1, .slice A0_2 y339.length c0_2] 39 (0, 0)) (by refine upK ?_; refine blk_put (cs := #[.int .i64 a0_0, .int .i64 a0_1, .slice A0_2 l0_2.length c0_2]) ?_ 2 _ rfl; refine upK ?_; exact BK335.out) k_ hk_))) (below_size (upB1 HB.out GE335.out))); replace BK335 := Aside0.mk (blk_below (g := gb335) (o := .cells #[.int .i64 a0_0, .int .i64 a0_1, .slice A0_2 y339.length c0_2] 39 (0, 0)) (by refine upK ?_; refine blk_put (cs := #[.int .i64 a0_0, .int .i64 a0_1, .slice A0_2 l0_2.length c0_2]) ?_ 2 _ rfl; refine upK ?_; exact BK335.out) hb); replace HB := Aside0.mk (below_step (upB1 HB.out GE335.out) hb); (try clear hb); (try clear hb2); (try clear hk); (try clear hi); (try clear ho0)) | ((with_reducible refine gate_dst (N := 5) rfl ?_); refine box_event ?hg (N := 5) ?hd (cs := #[.slice none 0 0]) (t := 24) ?hr ?_; (case hd => rfl); (case hg => rfl); (case hr => first | (go_simp; done) | (go_simp; rfl)); intro gb347 hg w94 hbox hb; replace HO338 := Aside0.mk (Kd.V_below (Kd.V_elderB (upV HO338.out) gb347 (Nat.le_of_eq hg.symm)) hb); replace HO345 := Aside0.mk (Kd.V_below (Kd.V_elderB (upV HO345.out) gb347 (Nat.le_of_eq hg.symm)) hb); have BK347 := Aside0.mk (hbox); have GW347 := Aside0.mk ((by rw [hg]; exact (below_size (upB1 HB.out GE335.out)) : w.heap.size ≤ gb347)); have GE347 := Aside0.mk ((by rw [hg]; exact (below_size (upB1 HB.out GE335.out)) : w.heap.size ≤ gb347)); replace HB := Aside0.mk (below_step (upB1 HB.out GE335.out) hb); have NB335_347 := Aside0.mk ((by rw [hg]; exact Nat.ne_of_lt (blk_lt (upK BK335.out)) : gb335 ≠ gb347)); have NB347_335 := Aside0.mk ((by rw [hg]; exact Nat.ne_of_gt (blk_lt (upK BK335.out)) : gb347 ≠ gb335)); replace BK335 := Aside0.mk (blk_below (upK BK335.out) hb); clear hb hbox hg; obtain ⟨Ao95, co95, eo95⟩ := Kd.V_slice HO345.out; subst eo95; have hnb96 := NB347_335.out; have hnc96 := NB335_347.out; obtain ⟨hcz97_0, hfz97_0⟩ := cells1 BK347.out) | ((with_reducible refine gate_callee (f := 22) rfl ?_); refine goesL_ (some 26) rfl rfl Try.func22 (by kernel_rfl) rfl #[.slice Ao92 t336.length co92] rfl argA ?_; (with_reducible refine (plinthref25_Make.calls k _ _ t336 t348 t351 _ ?side1 ?side2 A7.out).mono ?_); (case side1 => refine (Kd.V_reads' (e := 25) (base := w.heap.size) (ok := fun k_ => (k_ ≠ gb335 ∧ k_ ≠ gb347)) (n := t336.length) (c := co92) ?_).2.2; exact (by refine upV ?_; exact (fV1 (Kd.V_mono HO338.out (fun k_ hk => (⟨hk, hk.2⟩ : _ ∧ k_ ≠ gb347)))))); (case side2 => exact (Kd.V_reads' HO338.out).2.1); rintro e w98 ⟨v349, rfl, ho0, hb⟩; refine ⟨_, rfl, ?_⟩; replace HO338 := Aside0.mk (Kd.V_below (by refine upV ?_; exact (fV1 (Kd.V_mono HO338.out (fun k_ hk => (⟨hk, hk.2⟩ : _ ∧ k_ ≠ gb347))))) hb); replace HO345 := Aside0.mk (Kd.V_below (by refine upV ?_; exact (fV1 (Kd.V_mono HO345.out (fun k_ hk => (⟨hk, hk.2⟩ : _ ∧ k_ ≠ gb347))))) hb); have HO350 := Aside0.mk (Kd.V_lower (Kd.V_mono (ok' := fun k_ => k_ ≠ gb335 ∧ k_ ≠ gb347) ho0 (fun k_ hk_ => ⟨(Kd.freshB (g := gb335) (o := .cells #[.int .i64 a0_0, .int .i64 a0_1, .slice A0_2 y339.length c0_2] 39 (0, 0)) (by refine upK ?_; refine blk_far ?_ NB335_347.out _; refine upK ?_; exact BK335.out) k_ hk_), (Kd.freshB (g := gb347) (o := .cells #[.slice Ao95 t343.length co95] 24 (0, 0)) (by refine upK ?_; refine blk_put (cs := #[.slice none 0 0]) ?_ 0 _ rfl; refine upK ?_; exact BK347.out) k_ hk_)⟩)) (below_size (upB2 HB.out GE335.out GE347.out))); replace BK335 := Aside0.mk (blk_below (g := gb335) (o := .cells #[.int .i64 a0_0, .int .i64 a0_1, .slice A0_2 y339.length c0_2] 39 (0, 0)) (by refine upK ?_; refine blk_far ?_ NB335_347.out _; refine upK ?_; exact BK335.out) hb); replace BK347 := Aside0.mk (blk_below (g := gb347) (o := .cells #[.slice Ao95 t343.length co95] 24 (0, 0)) (by refine upK ?_; refine blk_put (cs := #[.slice none 0 0]) ?_ 0 _ rfl; refine upK ?_; exact BK347.out) hb); replace HB := Aside0.mk (below_step (upB2 HB.out GE335.out GE347.out) hb); (try clear hb); (try clear hb2); (try clear hk); (try clear hi); (try clear ho0)) | ((with_reducible refine gate_dst (N := 7) rfl ?_); refine box_event ?hg (N := 7) ?hd (cs := #[.slice none 0 0]) (t := 24) ?hr ?_; (case hd => rfl); (case hg => rfl); (case hr => first | (go_simp; done) | (go_simp; rfl)); intro gb352 hg w99 hbox hb; replace HO338 := Aside0.mk (Kd.V_below (Kd.V_elderB (upV HO338.out) gb352 (Nat.le_of_eq hg.symm)) hb); replace HO345 := Aside0.mk (Kd.V_below (Kd.V_elderB (upV HO345.out) gb352 (Nat.le_of_eq hg.symm)) hb); replace HO350 := Aside0.mk (Kd.V_below (Kd.V_elderB (upV HO350.out) gb352 (Nat.le_of_eq hg.symm)) hb); have BK352 := Aside0.mk (hbox); have GW352 := Aside0.mk ((by rw [hg]; exact (below_size (upB2 HB.out GE335.out GE347.out)) : w.heap.size ≤ gb352)); have GE352 := Aside0.mk ((by rw [hg]; exact (below_size (upB2 HB.out GE335.out GE347.out)) : w.heap.size ≤ gb352)); replace HB := Aside0.mk (below_step (upB2 HB.out GE335.out GE347.out) hb); have NB335_352 := Aside0.mk ((by rw [hg]; exact Nat.ne_of_lt (blk_lt (upK BK335.out)) : gb335 ≠ gb352)); have NB352_335 := Aside0.mk ((by rw [hg]; exact Nat.ne_of_gt (blk_lt (upK BK335.out)) : gb352 ≠ gb335)); replace BK335 := Aside0.mk (blk_below (upK BK335.out) hb); have NB347_352 := Aside0.mk ((by rw [hg]; exact Nat.ne_of_lt (blk_lt (upK BK347.out)) : gb347 ≠ gb352)); have NB352_347 := Aside0.mk ((by rw [hg]; exact Nat.ne_of_gt (blk_lt (upK BK347.out)) : gb352 ≠ gb347)); replace BK347 := Aside0.mk (blk_below (upK BK347.out) hb); clear hb hbox hg; obtain ⟨Ao100, co100, eo100⟩ := Kd.V_slice HO350.out; subst eo100; have hnb101 := NB352_335.out; have hnc101 := NB335_352.out; have hnb102 := NB352_347.out; have hnc102 := NB347_352.out; obtain ⟨hcz103_0, hfz103_0⟩ := cells1 BK352.out))
     have n0_ : Aside0 (Kd.V (Kd.int .u32) 25 (w99.setCell ⟨gb352, 0, none⟩ (.slice Ao100 t348.length co100)) w.heap.size (fun k_ => k_ ≠ gb335 ∧ k_ ≠ gb347 ∧ k_ ≠ gb352) (.slice Ao92 t336.length co92) t336) := ⟨by refine upV ?_; exact Kd.V_mono (garV1 (g := gb352) (Kd.V_mono HO338.out (fun k_ hk => (⟨hk, hk.2⟩ : _ ∧ k_ ≠ gb352))) 0 (.slice Ao100 t348.length co100)) (fun _ hk => ⟨hk.1.1.1, ⟨hk.1.1.2, hk.1.2⟩⟩)⟩
     have n1_ : Aside0 (Kd.V (Kd.slice 25 (Kd.int .u32)) 40 (w99.setCell ⟨gb352, 0, none⟩ (.slice Ao100 t348.length co100)) w.heap.size (fun k_ => k_ ≠ gb335 ∧ k_ ≠ gb347 ∧ k_ ≠ gb352) (.slice Ao95 t343.length co95) t343) := ⟨by refine upV ?_; exact Kd.V_mono (garV1 (g := gb352) (Kd.V_mono HO345.out (fun k_ hk => (⟨hk, hk.2⟩ : _ ∧ k_ ≠ gb352))) 0 (.slice Ao100 t348.length co100)) (fun _ hk => ⟨hk.1.1.1, ⟨hk.1.1.2, hk.1.2⟩⟩)⟩
     have n2_ : Aside0 (Kd.V (Kd.slice 25 (Kd.int .u32)) 40 (w99.setCell ⟨gb352, 0, none⟩ (.slice Ao100 t348.length co100)) w.heap.size (fun k_ => k_ ≠ gb335 ∧ k_ ≠ gb347 ∧ k_ ≠ gb352) (.slice Ao100 t348.length co100) t348) := ⟨by refine upV ?_; exact Kd.V_mono (garV1 (g := gb352) (Kd.V_mono HO350.out (fun k_ hk => (⟨hk, hk.2⟩ : _ ∧ k_ ≠ gb352))) 0 (.slice Ao100 t348.length co100)) (fun _ hk => ⟨hk.1.1.1, ⟨hk.1.1.2, hk.1.2⟩⟩)⟩
     have n3_ : Aside0 ((w99.setCell ⟨gb352, 0, none⟩ (.slice Ao100 t348.length co100)).heap[gb335]? = some (.cells #[.int .i64 a0_0, .int .i64 a0_1, .slice A0_2 y339.length c0_2] 39 (0, 0))) := ⟨by refine upK ?_; refine blk_far ?_ NB335_352.out _; refine upK ?_; exact BK335.out⟩
     have n4_ : Aside0 ((w99.setCell ⟨gb352, 0, none⟩ (.slice Ao100 t348.length co100)).heap[gb347]? = some (.cells #[.slice Ao95 t343.length co95] 24 (0, 0))) := ⟨by refine upK ?_; refine blk_far ?_ NB347_352.out _; refine upK ?_; exact BK347.out⟩
     have n5_ : Aside0 ((w99.setCell ⟨gb352, 0, none⟩ (.slice Ao100 t348.length co100)).heap[gb352]? = some (.cells #[.slice Ao100 t348.length co100] 24 (0, 0))) := ⟨by refine upK ?_; refine blk_put (cs := #[.slice none 0 0]) ?_ 0 _ rfl; refine upK ?_; exact BK352.out⟩
     have n6_ : Aside0 (Below w.heap.size w (w99.setCell ⟨gb352, 0, none⟩ (.slice Ao100 t348.length co100))) := ⟨upB3 HB.out GE335.out GE347.out GE352.out⟩
     (try clear HO338); (try clear HO345); (try clear HO350); (try clear BK335); (try clear BK347); (try clear BK352); (try clear HB)
     generalize (w99.setCell ⟨gb352, 0, none⟩ (.slice Ao100 t348.length co100)) = w104 at n0_ n1_ n2_ n3_ n4_ n5_ n6_ ⊢
     have HO338 := n0_
     have HO345 := n1_
     have HO350 := n2_
     have BK335 := n3_
     have BK347 := n4_
     have BK352 := n5_
     have HB := n6_
     clear n0_ n1_ n2_ n3_ n4_ n5_ n6_
     replace HO338 := Aside0.mk (Kd.V_drew HO338.out)
     replace HO345 := Aside0.mk (Kd.V_drew HO345.out)
     replace HO350 := Aside0.mk (Kd.V_drew HO350.out)
     replace BK335 := Aside0.mk (blk_drew BK335.out)
     replace BK347 := Aside0.mk (blk_drew BK347.out)
     replace BK352 := Aside0.mk (blk_drew BK352.out)
     replace HB := Aside0.mk (below_drew1 HB.out)
     refine start_ (n := 26) (S := fun w' => w'.cell? ⟨gb335, 0, none⟩ = some (.int .i64 a0_0) ∧ w'.cell? ⟨gb335, 1, none⟩ = some (.int .i64 a0_1) ∧ w'.cell? ⟨gb335, 2, none⟩ = some (.slice A0_2 y339.length c0_2)) (ds := []) (Array.replicate 26 false) (by kernel_rfl) rfl rfl ⟨(blk_cell BK335.out 0).trans rfl, (blk_cell BK335.out 1).trans rfl, (blk_cell BK335.out 2).trans rfl⟩ (fun hHeld => ?_); refine with_tabW plinthlaw25_TreeMakes.tab6 plinthlaw25_TreeMakes.bits6 (fun HT_ HW_ => ?_)
     generalize w104.drew = w105 at HO338 HO345 HO350 BK335 BK347 BK352 HB hHeld ⊢
     refine tM 0 29 HT_.out HW_.out hHeld ?_; refine tM 2 31 HT_.out HW_.out hHeld ?_
     refine oM 1 30 HT_.out (fun K hK => ?_)
     refine gM Try.func23 #[.agg #[.int .i64 a0_0, .int .i64 a0_1, .slice A0_2 y339.length c0_2]] ?_
     with_reducible refine (tree_Leaf.calls k a0_0 a0_1 (fun k_ => k_ < w.heap.size) _ _ y339 t353 _ ?side1 A8.out).mono ?_
     (case side1 => exact Kd.V_mk HC342.out (Kd.F_below (Kd.C_F (Kd.heap_int .u8) HR342.out) (upB3 HB.out GE335.out GE347.out GE352.out)))
     rintro e w106 ⟨rfl, hb⟩
     refine ⟨_, rfl, ?_⟩
     replace HO338 := Aside0.mk (Kd.V_below (upV HO338.out) hb)
     replace HO345 := Aside0.mk (Kd.V_below (upV HO345.out) hb)
     replace HO350 := Aside0.mk (Kd.V_below (upV HO350.out) hb)
     replace BK335 := Aside0.mk (blk_below (upK BK335.out) hb)
     replace BK347 := Aside0.mk (blk_below (upK BK347.out) hb)
     replace BK352 := Aside0.mk (blk_below (upK BK352.out) hb)
     replace HB := Aside0.mk (below_step (upB3 HB.out GE335.out GE347.out GE352.out) hb)
     (try clear hb); (try clear hb2); (try clear hk); (try clear hi)
     refine hK.out _ _ ⟨(blk_cell BK335.out 0).trans rfl, (blk_cell BK335.out 1).trans rfl, (blk_cell BK335.out 2).trans rfl⟩ (fun hHeld => ?_)
     clear hK K
     refine nM 30 ?_
     refine oM 3 32 HT_.out (fun K hK => ?_)
     refine gM Try.func24 #[.agg #[.int .i64 a0_0, .int .i64 a0_1, .slice A0_2 y339.length c0_2]] ?_
     with_reducible refine (plinthref25_Leaf.calls k a0_0 a0_1 (fun k_ => k_ < w.heap.size) _ _ y339 t354 _ ?side1 A9.out).mono ?_
     (case side1 => exact Kd.V_mk HC342.out (Kd.F_below (Kd.C_F (Kd.heap_int .u8) HR342.out) (upB3 HB.out GE335.out GE347.out GE352.out)))
     rintro e w107 ⟨rfl, hb⟩
     refine ⟨_, rfl, ?_⟩
     replace HO338 := Aside0.mk (Kd.V_below (upV HO338.out) hb)
     replace HO345 := Aside0.mk (Kd.V_below (upV HO345.out) hb)
     replace HO350 := Aside0.mk (Kd.V_below (upV HO350.out) hb)
     replace BK335 := Aside0.mk (blk_below (upK BK335.out) hb)
     replace BK347 := Aside0.mk (blk_below (upK BK347.out) hb)
     replace BK352 := Aside0.mk (blk_below (upK BK352.out) hb)
     replace HB := Aside0.mk (below_step (upB3 HB.out GE335.out GE347.out GE352.out) hb)
     (try clear hb); (try clear hb2); (try clear hk); (try clear hi)
     refine hK.out _ _ ⟨(blk_cell BK335.out 0).trans rfl, (blk_cell BK335.out 1).trans rfl, (blk_cell BK335.out 2).trans rfl⟩ (fun hHeld => ?_)
     clear hK K
     refine nM 32 ?_; refine pM 4 33 HT_.out ?_; refine pM 5 34 HT_.out ?_; refine pM 6 35 HT_.out ?_; refine pM 8 37 HT_.out ?_
     refine oM 7 36 HT_.out (fun K hK => ?_)
     refine gM Try.func25 #[.slice Ao92 t336.length co92] ?_
     with_reducible refine (tree_Row.calls k _ _ t336 t355 _ ?side1 ?side2 A11.out).mono ?_
     (case side1 => exact upC ((Kd.V_reads' HO338.out).2.2))
     (case side2 => exact (Kd.V_reads' HO338.out).2.1)
     rintro e w108 ⟨rfl, hb⟩
     refine ⟨_, rfl, ?_⟩
     replace HO338 := Aside0.mk (Kd.V_below (upV HO338.out) hb)
     replace HO345 := Aside0.mk (Kd.V_below (upV HO345.out) hb)
     replace HO350 := Aside0.mk (Kd.V_below (upV HO350.out) hb)
     replace BK335 := Aside0.mk (blk_below (upK BK335.out) hb)
     replace BK347 := Aside0.mk (blk_below (upK BK347.out) hb)
     replace BK352 := Aside0.mk (blk_below (upK BK352.out) hb)
     replace HB := Aside0.mk (below_step (upB3 HB.out GE335.out GE347.out GE352.out) hb)
     (try clear hb); (try clear hb2); (try clear hk); (try clear hi)
     refine hK.out _ _ ⟨(blk_cell BK335.out 0).trans rfl, (blk_cell BK335.out 1).trans rfl, (blk_cell BK335.out 2).trans rfl⟩ (fun hHeld => ?_)
     clear hK K
     refine nM 36 ?_
     refine oM 9 38 HT_.out (fun K hK => ?_)
     refine gM Try.func26 #[.slice Ao92 t336.length co92] ?_
     with_reducible refine (plinthref25_Row.calls k _ _ t336 t356 _ ?side1 ?side2 A12.out).mono ?_
     (case side1 => exact upC ((Kd.V_reads' HO338.out).2.2))
     (case side2 => exact (Kd.V_reads' HO338.out).2.1)
     rintro e w109 ⟨rfl, hb⟩
     refine ⟨_, rfl, ?_⟩
     replace HO338 := Aside0.mk (Kd.V_below (upV HO338.out) hb)
     replace HO345 := Aside0.mk (Kd.V_below (upV HO345.out) hb)
     replace HO350 := Aside0.mk (Kd.V_below (upV HO350.out) hb)
     replace BK335 := Aside0.mk (blk_below (upK BK335.out) hb)
     replace BK347 := Aside0.mk (blk_below (upK BK347.out) hb)
     replace BK352 := Aside0.mk (blk_below (upK BK352.out) hb)
     replace HB := Aside0.mk (below_step (upB3 HB.out GE335.out GE347.out GE352.out) hb)
     (try clear hb); (try clear hb2); (try clear hk); (try clear hi)
     refine hK.out _ _ ⟨(blk_cell BK335.out 0).trans rfl, (blk_cell BK335.out 1).trans rfl, (blk_cell BK335.out 2).trans rfl⟩ (fun hHeld => ?_)
     clear hK K
     refine nM 38 ?_; refine pM 10 39 HT_.out ?_; refine pM 11 40 HT_.out ?_; refine pM 12 41 HT_.out ?_; refine uM 13 42 HT_.out ?_; refine uM 14 43 HT_.out ?_; refine uM 15 44 HT_.out ?_; refine pM 16 45 HT_.out ?_; refine pM 17 46 HT_.out ?_; refine uM 18 47 HT_.out ?_; refine uM 19 48 HT_.out ?_; refine uM 20 49 HT_.out ?_; refine pM 21 50 HT_.out ?_; refine pM 22 51 HT_.out ?_; refine uM 23 52 HT_.out ?_; refine pM 24 53 HT_.out ?_; refine pM 25 4 HT_.out ?_
     refine done_ (done_of HT_.out (by kernel_rfl)) ?_
     try go_wp2
     go_ret
     exact ⟨by first | rfl | (simp [errW_none, errW_some] <;> rfl) | (simp [*, errW_none, errW_some] <;> rfl), upB3 HB.out GE335.out GE347.out GE352.out⟩
   ·rw [if_neg c10] at H
    have c10b0 : (t353 == t354) = false := beq_eq_false_iff_ne.mpr c10
    have c10b1 : (t353 != t354) = true := bne_iff_ne.mpr c10
    obtain rfl := Option.some.inj H
    go_enter Try.func4, Try.ntmps4
    try go_wp2_with (first | ((with_reducible refine gate_dst (N := 2) rfl ?_); refine box_event ?hg (N := 2) ?hd (cs := #[.int .i64 a0_0, .int .i64 a0_1, .slice A0_2 l0_2.length c0_2]) (t := 39) ?hr ?_; (case hd => rfl); (case hg => rfl); (case hr => first | (go_simp; done) | (go_simp; rfl)); intro gb335 hg w110 hbox hb; have BK335 := Aside0.mk (hbox); have GW335 := Aside0.mk ((by rw [hg]; exact (below_size (upB0 HB.out)) : w.heap.size ≤ gb335)); have GE335 := Aside0.mk ((by rw [hg]; exact (below_size (upB0 HB.out)) : w.heap.size ≤ gb335)); replace HB := Aside0.mk (below_step (upB0 HB.out) hb); clear hb hbox hg) | ((with_reducible refine gate_callee (f := 20) rfl ?_); refine goesL_ (some 10) rfl rfl Try.func20 (by kernel_rfl) rfl #[.slice A1 l1.length c1] rfl argA ?_; (with_reducible refine (plinthlaw25_few.calls (fun k_ => k_ < w.heap.size) _ _ l1 t336 _ ?side1 A3.out).mono ?_); (case side1 => exact Kd.V_mk HC1.out (Kd.F_below (Kd.C_F (Kd.heap_int .u32) HR1.out) (upB1 HB.out GE335.out))); rintro e w111 ⟨v337, rfl, ho0, hb⟩; refine ⟨_, rfl, ?_⟩; have HO338 := Aside0.mk (Kd.V_lower (Kd.V_mono (ok' := fun k_ => k_ ≠ gb335) ho0 (fun k_ hk_ => Or.elim hk_ (fun hs_ => fun e_ => Nat.not_le.2 hs_ (by rw [e_]; exact GW335.out)) (fun hn_ => (Kd.freshB (upK BK335.out) k_ hn_)))) (below_size (upB1 HB.out GE335.out))); replace BK335 := Aside0.mk (blk_below (upK BK335.out) hb); replace HB := Aside0.mk (below_step (upB1 HB.out GE335.out) hb); (try clear hb); (try clear hb2); (try clear hk); (try clear hi); (try clear ho0); obtain ⟨hcz112_0, hcz112_1, hcz112_2, hfz112_0, hfz112_1, hfz112_2⟩ := cells3 BK335.out; have q113 : (5000 : Int) ≤ ((l0_2.length : Int) : Int) := of_decide_eq_true (by first | (with_reducible assumption) | assumption); obtain ⟨i0113, hi0113, _, hsz113, _⟩ := info_parts info5; have hroom113 : l0_2.length ≤ c0_2 := HC0_2.out; have hC113 : Kd.C (Kd.int .u8) _ A0_2 l0_2.length l0_2 := HR0_2.out; have hcut113 := cut_to (P := Try.prog) 37 5 .i64 Try.underlying37 hi0113 A0_2 l0_2.length c0_2 5000 (by omega) q113 hroom113; have hr113 := Kd.C_take (m := 5000) hC113 (by omega); have hy113 : y339.length = (5000 : Int).toNat := (by rw [Ny339.out, List.length_take]; omega); rw [← Ny339.out] at hr113; rw [← hy113] at hcut113; have HR342 := Aside0.mk hr113; have HC342 := Aside0.mk (show y339.length ≤ c0_2 from by omega); clear hr113 hC113 hroom113 hi0113 hsz113; have KY113 := Aside0.mk hy113; clear hy113; replace q113 := eq_true q113; obtain ⟨Ao114, co114, eo114⟩ := Kd.V_slice HO338.out; subst eo114) | ((with_reducible refine gate_callee (f := 21) rfl ?_); refine goesL_ (some 21) rfl rfl Try.func21 (by kernel_rfl) rfl #[.slice Ao114 t336.length co114] rfl argA ?_; (with_reducible refine (tree_Make.calls k _ _ t336 t343 t346 _ ?side1 ?side2 A6.out).mono ?_); (case side1 => refine (Kd.V_reads' (e := 25) (base := w.heap.size) (ok := fun k_ => k_ ≠ gb335) (n := t336.length) (c := co114) ?_).2.2; exact (by refine upV ?_; exact (fV1 (Kd.V_mono HO338.out (fun k_ hk => (⟨hk, hk⟩ : _ ∧ k_ ≠ gb335)))))); (case side2 => exact (Kd.V_reads' HO338.out).2.1); rintro e w115 ⟨v344, rfl, ho0, hb⟩; refine ⟨_, rfl, ?_⟩; replace HO338 := Aside0.mk (Kd.V_below (by refine upV ?_; exact (fV1 (Kd.V_mono HO338.out (fun k_ hk => (⟨hk, hk⟩ : _ ∧ k_ ≠ gb335))))) hb); have HO345 := Aside0.mk (Kd.V_lower (Kd.V_mono (ok' := fun k_ => k_ ≠ gb335) ho0 (fun k_ hk_ => (Kd.freshB (g := gb335) (o := .cells #[.int .i64 a0_0, .int .i64 a0_1, .slice A0_2 y339.length c0_2] 39 (0, 0)) (by refine upK ?_; refine blk_put (cs := #[.int .i64 a0_0, .int .i64 a0_1, .slice A0_2 l0_2.length c0_2]) ?_ 2 _ rfl; refine upK ?_; exact BK335.out) k_ hk_))) (below_size (upB1 HB.out GE335.out))); replace BK335 := Aside0.mk (blk_below (g := gb335) (o := .cells #[.int .i64 a0_0, .int .i64 a0_1, .slice A0_2 y339.length c0_2] 39 (0, 0)) (by refine upK ?_; refine blk_put (cs := #[.int .i64 a0_0, .int .i64 a0_1, .slice A0_2 l0_2.length c0_2]) ?_ 2 _ rfl; refine upK ?_; exact BK335.out) hb); replace HB := Aside0.mk (below_step (upB1 HB.out GE335.out) hb); (try clear hb); (try clear hb2); (try clear hk); (try clear hi); (try clear ho0)) | ((with_reducible refine gate_dst (N := 5) rfl ?_); refine box_event ?hg (N := 5) ?hd (cs := #[.slice none 0 0]) (t := 24) ?hr ?_; (case hd => rfl); (case hg => rfl); (case hr => first | (go_simp; done) | (go_simp; rfl)); intro gb347 hg w116 hbox hb; replace HO338 := Aside0.mk (Kd.V_below (Kd.V_elderB (upV HO338.out) gb347 (Nat.le_of_eq hg.symm)) hb); replace HO345 := Aside0.mk (Kd.V_below (Kd.V_elderB (upV HO345.out) gb347 (Nat.le_of_eq hg.symm)) hb); have BK347 := Aside0.mk (hbox); have GW347 := Aside0.mk ((by rw [hg]; exact (below_size (upB1 HB.out GE335.out)) : w.heap.size ≤ gb347)); have GE347 := Aside0.mk ((by rw [hg]; exact (below_size (upB1 HB.out GE335.out)) : w.heap.size ≤ gb347)); replace HB := Aside0.mk (below_step (upB1 HB.out GE335.out) hb); have NB335_347 := Aside0.mk ((by rw [hg]; exact Nat.ne_of_lt (blk_lt (upK BK335.out)) : gb335 ≠ gb347)); have NB347_335 := Aside0.mk ((by rw [hg]; exact Nat.ne_of_gt (blk_lt (upK BK335.out)) : gb347 ≠ gb335)); replace BK335 := Aside0.mk (blk_below (upK BK335.out) hb); clear hb hbox hg; obtain ⟨Ao117, co117, eo117⟩ := Kd.V_slice HO345.out; subst eo117; have hnb118 := NB347_335.out; have hnc118 := NB335_347.out; obtain ⟨hcz119_0, hfz119_0⟩ := cells1 BK347.out) | ((with_reducible refine gate_callee (f := 22) rfl ?_); refine goesL_ (some 26) rfl rfl Try.func22 (by kernel_rfl) rfl #[.slice Ao114 t336.length co114] rfl argA ?_; (with_reducible refine (plinthref25_Make.calls k _ _ t336 t348 t351 _ ?side1 ?side2 A7.out).mono ?_); (case side1 => refine (Kd.V_reads' (e := 25) (base := w.heap.size) (ok := fun k_ => (k_ ≠ gb335 ∧ k_ ≠ gb347)) (n := t336.length) (c := co114) ?_).2.2; exact (by refine upV ?_; exact (fV1 (Kd.V_mono HO338.out (fun k_ hk => (⟨hk, hk.2⟩ : _ ∧ k_ ≠ gb347)))))); (case side2 => exact (Kd.V_reads' HO338.out).2.1); rintro e w120 ⟨v349, rfl, ho0, hb⟩; refine ⟨_, rfl, ?_⟩; replace HO338 := Aside0.mk (Kd.V_below (by refine upV ?_; exact (fV1 (Kd.V_mono HO338.out (fun k_ hk => (⟨hk, hk.2⟩ : _ ∧ k_ ≠ gb347))))) hb); replace HO345 := Aside0.mk (Kd.V_below (by refine upV ?_; exact (fV1 (Kd.V_mono HO345.out (fun k_ hk => (⟨hk, hk.2⟩ : _ ∧ k_ ≠ gb347))))) hb); have HO350 := Aside0.mk (Kd.V_lower (Kd.V_mono (ok' := fun k_ => k_ ≠ gb335 ∧ k_ ≠ gb347) ho0 (fun k_ hk_ => ⟨(Kd.freshB (g := gb335) (o := .cells #[.int .i64 a0_0, .int .i64 a0_1, .slice A0_2 y339.length c0_2] 39 (0, 0)) (by refine upK ?_; refine blk_far ?_ NB335_347.out _; refine upK ?_; exact BK335.out) k_ hk_), (Kd.freshB (g := gb347) (o := .cells #[.slice Ao117 t343.length co117] 24 (0, 0)) (by refine upK ?_; refine blk_put (cs := #[.slice none 0 0]) ?_ 0 _ rfl; refine upK ?_; exact BK347.out) k_ hk_)⟩)) (below_size (upB2 HB.out GE335.out GE347.out))); replace BK335 := Aside0.mk (blk_below (g := gb335) (o := .cells #[.int .i64 a0_0, .int .i64 a0_1, .slice A0_2 y339.length c0_2] 39 (0, 0)) (by refine upK ?_; refine blk_far ?_ NB335_347.out _; refine upK ?_; exact BK335.out) hb); replace BK347 := Aside0.mk (blk_below (g := gb347) (o := .cells #[.slice Ao117 t343.length co117] 24 (0, 0)) (by refine upK ?_; refine blk_put (cs := #[.slice none 0 0]) ?_ 0 _ rfl; refine upK ?_; exact BK347.out) hb); replace HB := Aside0.mk (below_step (upB2 HB.out GE335.out GE347.out) hb); (try clear hb); (try clear hb2); (try clear hk); (try clear hi); (try clear ho0)) | ((with_reducible refine gate_dst (N := 7) rfl ?_); refine box_event ?hg (N := 7) ?hd (cs := #[.slice none 0 0]) (t := 24) ?hr ?_; (case hd => rfl); (case hg => rfl); (case hr => first | (go_simp; done) | (go_simp; rfl)); intro gb352 hg w121 hbox hb; replace HO338 := Aside0.mk (Kd.V_below (Kd.V_elderB (upV HO338.out) gb352 (Nat.le_of_eq hg.symm)) hb); replace HO345 := Aside0.mk (Kd.V_below (Kd.V_elderB (upV HO345.out) gb352 (Nat.le_of_eq hg.symm)) hb); replace HO350 := Aside0.mk (Kd.V_below (Kd.V_elderB (upV HO350.out) gb352 (Nat.le_of_eq hg.symm)) hb); have BK352 := Aside0.mk (hbox); have GW352 := Aside0.mk ((by rw [hg]; exact (below_size (upB2 HB.out GE335.out GE347.out)) : w.heap.size ≤ gb352)); have GE352 := Aside0.mk ((by rw [hg]; exact (below_size (upB2 HB.out GE335.out GE347.out)) : w.heap.size ≤ gb352)); replace HB := Aside0.mk (below_step (upB2 HB.out GE335.out GE347.out) hb); have NB335_352 := Aside0.mk ((by rw [hg]; exact Nat.ne_of_lt (blk_lt (upK BK335.out)) : gb335 ≠ gb352)); have NB352_335 := Aside0.mk ((by rw [hg]; exact Nat.ne_of_gt (blk_lt (upK BK335.out)) : gb352 ≠ gb335)); replace BK335 := Aside0.mk (blk_below (upK BK335.out) hb); have NB347_352 := Aside0.mk ((by rw [hg]; exact Nat.ne_of_lt (blk_lt (upK BK347.out)) : gb347 ≠ gb352)); have NB352_347 := Aside0.mk ((by rw [hg]; exact Nat.ne_of_gt (blk_lt (upK BK347.out)) : gb352 ≠ gb347)); replace BK347 := Aside0.mk (blk_below (upK BK347.out) hb); clear hb hbox hg; obtain ⟨Ao122, co122, eo122⟩ := Kd.V_slice HO350.out; subst eo122; have hnb123 := NB352_335.out; have hnc123 := NB335_352.out; have hnb124 := NB352_347.out; have hnc124 := NB347_352.out; obtain ⟨hcz125_0, hfz125_0⟩ := cells1 BK352.out))
    have n0_ : Aside0 (Kd.V (Kd.int .u32) 25 (w121.setCell ⟨gb352, 0, none⟩ (.slice Ao122 t348.length co122)) w.heap.size (fun k_ => k_ ≠ gb335 ∧ k_ ≠ gb347 ∧ k_ ≠ gb352) (.slice Ao114 t336.length co114) t336) := ⟨by refine upV ?_; exact Kd.V_mono (garV1 (g := gb352) (Kd.V_mono HO338.out (fun k_ hk => (⟨hk, hk.2⟩ : _ ∧ k_ ≠ gb352))) 0 (.slice Ao122 t348.length co122)) (fun _ hk => ⟨hk.1.1.1, ⟨hk.1.1.2, hk.1.2⟩⟩)⟩
    have n1_ : Aside0 (Kd.V (Kd.slice 25 (Kd.int .u32)) 40 (w121.setCell ⟨gb352, 0, none⟩ (.slice Ao122 t348.length co122)) w.heap.size (fun k_ => k_ ≠ gb335 ∧ k_ ≠ gb347 ∧ k_ ≠ gb352) (.slice Ao117 t343.length co117) t343) := ⟨by refine upV ?_; exact Kd.V_mono (garV1 (g := gb352) (Kd.V_mono HO345.out (fun k_ hk => (⟨hk, hk.2⟩ : _ ∧ k_ ≠ gb352))) 0 (.slice Ao122 t348.length co122)) (fun _ hk => ⟨hk.1.1.1, ⟨hk.1.1.2, hk.1.2⟩⟩)⟩
    have n2_ : Aside0 (Kd.V (Kd.slice 25 (Kd.int .u32)) 40 (w121.setCell ⟨gb352, 0, none⟩ (.slice Ao122 t348.length co122)) w.heap.size (fun k_ => k_ ≠ gb335 ∧ k_ ≠ gb347 ∧ k_ ≠ gb352) (.slice Ao122 t348.length co122) t348) := ⟨by refine upV ?_; exact Kd.V_mono (garV1 (g := gb352) (Kd.V_mono HO350.out (fun k_ hk => (⟨hk, hk.2⟩ : _ ∧ k_ ≠ gb352))) 0 (.slice Ao122 t348.length co122)) (fun _ hk => ⟨hk.1.1.1, ⟨hk.1.1.2, hk.1.2⟩⟩)⟩
    have n3_ : Aside0 ((w121.setCell ⟨gb352, 0, none⟩ (.slice Ao122 t348.length co122)).heap[gb335]? = some (.cells #[.int .i64 a0_0, .int .i64 a0_1, .slice A0_2 y339.length c0_2] 39 (0, 0))) := ⟨by refine upK ?_; refine blk_far ?_ NB335_352.out _; refine upK ?_; exact BK335.out⟩
    have n4_ : Aside0 ((w121.setCell ⟨gb352, 0, none⟩ (.slice Ao122 t348.length co122)).heap[gb347]? = some (.cells #[.slice Ao117 t343.length co117] 24 (0, 0))) := ⟨by refine upK ?_; refine blk_far ?_ NB347_352.out _; refine upK ?_; exact BK347.out⟩
    have n5_ : Aside0 ((w121.setCell ⟨gb352, 0, none⟩ (.slice Ao122 t348.length co122)).heap[gb352]? = some (.cells #[.slice Ao122 t348.length co122] 24 (0, 0))) := ⟨by refine upK ?_; refine blk_put (cs := #[.slice none 0 0]) ?_ 0 _ rfl; refine upK ?_; exact BK352.out⟩
    have n6_ : Aside0 (Below w.heap.size w (w121.setCell ⟨gb352, 0, none⟩ (.slice Ao122 t348.length co122))) := ⟨upB3 HB.out GE335.out GE347.out GE352.out⟩
    (try clear HO338); (try clear HO345); (try clear HO350); (try clear BK335); (try clear BK347); (try clear BK352); (try clear HB)
    generalize (w121.setCell ⟨gb352, 0, none⟩ (.slice Ao122 t348.length co122)) = w126 at n0_ n1_ n2_ n3_ n4_ n5_ n6_ ⊢
    have HO338 := n0_
    have HO345 := n1_
    have HO350 := n2_
    have BK335 := n3_
    have BK347 := n4_
    have BK352 := n5_
    have HB := n6_
    clear n0_ n1_ n2_ n3_ n4_ n5_ n6_
    replace HO338 := Aside0.mk (Kd.V_drew HO338.out)
    replace HO345 := Aside0.mk (Kd.V_drew HO345.out)
    replace HO350 := Aside0.mk (Kd.V_drew HO350.out)
    replace BK335 := Aside0.mk (blk_drew BK335.out)
    replace BK347 := Aside0.mk (blk_drew BK347.out)
    replace BK352 := Aside0.mk (blk_drew BK352.out)
    replace HB := Aside0.mk (below_drew1 HB.out)
    refine start_ (n := 26) (S := fun w' => w'.cell? ⟨gb335, 0, none⟩ = some (.int .i64 a0_0) ∧ w'.cell? ⟨gb335, 1, none⟩ = some (.int .i64 a0_1) ∧ w'.cell? ⟨gb335, 2, none⟩ = some (.slice A0_2 y339.length c0_2)) (ds := []) (Array.replicate 26 false) (by kernel_rfl) rfl rfl ⟨(blk_cell BK335.out 0).trans rfl, (blk_cell BK335.out 1).trans rfl, (blk_cell BK335.out 2).trans rfl⟩ (fun hHeld => ?_); refine with_tabW plinthlaw25_TreeMakes.tab6 plinthlaw25_TreeMakes.bits6 (fun HT_ HW_ => ?_)
    generalize w126.drew = w127 at HO338 HO345 HO350 BK335 BK347 BK352 HB hHeld ⊢
    refine tM 0 29 HT_.out HW_.out hHeld ?_; refine tM 2 31 HT_.out HW_.out hHeld ?_
    refine oM 1 30 HT_.out (fun K hK => ?_)
    refine gM Try.func23 #[.agg #[.int .i64 a0_0, .int .i64 a0_1, .slice A0_2 y339.length c0_2]] ?_
    with_reducible refine (tree_Leaf.calls k a0_0 a0_1 (fun k_ => k_ < w.heap.size) _ _ y339 t353 _ ?side1 A8.out).mono ?_
    (case side1 => exact Kd.V_mk HC342.out (Kd.F_below (Kd.C_F (Kd.heap_int .u8) HR342.out) (upB3 HB.out GE335.out GE347.out GE352.out)))
    rintro e w128 ⟨rfl, hb⟩
    refine ⟨_, rfl, ?_⟩
    replace HO338 := Aside0.mk (Kd.V_below (upV HO338.out) hb)
    replace HO345 := Aside0.mk (Kd.V_below (upV HO345.out) hb)
    replace HO350 := Aside0.mk (Kd.V_below (upV HO350.out) hb)
    replace BK335 := Aside0.mk (blk_below (upK BK335.out) hb)
    replace BK347 := Aside0.mk (blk_below (upK BK347.out) hb)
    replace BK352 := Aside0.mk (blk_below (upK BK352.out) hb)
    replace HB := Aside0.mk (below_step (upB3 HB.out GE335.out GE347.out GE352.out) hb)
    (try clear hb); (try clear hb2); (try clear hk); (try clear hi)
    refine hK.out _ _ ⟨(blk_cell BK335.out 0).trans rfl, (blk_cell BK335.out 1).trans rfl, (blk_cell BK335.out 2).trans rfl⟩ (fun hHeld => ?_)
    clear hK K
    refine nM 30 ?_
    refine oM 3 32 HT_.out (fun K hK => ?_)
    refine gM Try.func24 #[.agg #[.int .i64 a0_0, .int .i64 a0_1, .slice A0_2 y339.length c0_2]] ?_
    with_reducible refine (plinthref25_Leaf.calls k a0_0 a0_1 (fun k_ => k_ < w.heap.size) _ _ y339 t354 _ ?side1 A9.out).mono ?_
    (case side1 => exact Kd.V_mk HC342.out (Kd.F_below (Kd.C_F (Kd.heap_int .u8) HR342.out) (upB3 HB.out GE335.out GE347.out GE352.out)))
    rintro e w129 ⟨rfl, hb⟩
    refine ⟨_, rfl, ?_⟩
    replace HO338 := Aside0.mk (Kd.V_below (upV HO338.out) hb)
    replace HO345 := Aside0.mk (Kd.V_below (upV HO345.out) hb)
    replace HO350 := Aside0.mk (Kd.V_below (upV HO350.out) hb)
    replace BK335 := Aside0.mk (blk_below (upK BK335.out) hb)
    replace BK347 := Aside0.mk (blk_below (upK BK347.out) hb)
    replace BK352 := Aside0.mk (blk_below (upK BK352.out) hb)
    replace HB := Aside0.mk (below_step (upB3 HB.out GE335.out GE347.out GE352.out) hb)
    (try clear hb); (try clear hb2); (try clear hk); (try clear hi)
    refine hK.out _ _ ⟨(blk_cell BK335.out 0).trans rfl, (blk_cell BK335.out 1).trans rfl, (blk_cell BK335.out 2).trans rfl⟩ (fun hHeld => ?_)
    clear hK K
    refine nM 32 ?_; refine pM 4 33 HT_.out ?_; refine pM 5 34 HT_.out ?_; refine uM 6 35 HT_.out ?_; refine uM 7 36 HT_.out ?_; refine uM 8 37 HT_.out ?_; refine uM 9 38 HT_.out ?_; refine uM 10 39 HT_.out ?_; refine pM 11 40 HT_.out ?_; refine pM 12 41 HT_.out ?_; refine uM 13 42 HT_.out ?_; refine uM 14 43 HT_.out ?_; refine uM 15 44 HT_.out ?_; refine pM 16 45 HT_.out ?_; refine pM 17 46 HT_.out ?_; refine uM 18 47 HT_.out ?_; refine uM 19 48 HT_.out ?_; refine uM 20 49 HT_.out ?_; refine pM 21 50 HT_.out ?_; refine pM 22 51 HT_.out ?_; refine uM 23 52 HT_.out ?_; refine pM 24 53 HT_.out ?_; refine pM 25 4 HT_.out ?_
    refine done_ (done_of HT_.out (by kernel_rfl)) ?_
    try go_wp2
    go_ret
    exact ⟨by first | rfl | (simp [errW_none, errW_some] <;> rfl) | (simp [*, errW_none, errW_some] <;> rfl), upB3 HB.out GE335.out GE347.out GE352.out⟩
  ·rw [if_neg c5] at H
   exact absurd H (by simp)
end Go.Proofs.Ytbmmddngadnofaa.F
