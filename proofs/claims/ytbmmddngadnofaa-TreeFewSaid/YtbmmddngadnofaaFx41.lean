-- Written by ext (this session's own program).
-- in short rows (short.py)
import Derived.Test.YtbmmddngadnofaaFx0
import Derived.Test.YtbmmddngadnofaaFx8
import Derived.Test.YtbmmddngadnofaaFx24
import Derived.Test.YtbmmddngadnofaaFx26
import Derived.Test.YtbmmddngadnofaaFx33
import Derived.Test.YtbmmddngadnofaaFx37
namespace Go.Proofs.Ytbmmddngadnofaa.F
open Go.RowKit Go.Proofs.YtbmmddngadnofaaW.PrintWords Go.Proofs.YtbmmddngadnofaaW.PrintLast Go.Proofs.YtbmmddngadnofaaW.PrintMore
attribute [local go_sem] max2_int min2_int max_two min_two max_three min_three max_four min_four   -- for this text's walks alone
set_option linter.unusedVariables false
set_option linter.unusedSimpArgs false

/-! ### plinthlaw25_TreeFew: function 8 -/
mutual
def plinthlaw25_TreeFew.l0 : Nat → List Int → List Int → Int → Int → Int → List (List Int) → List (List Int) → Option (Bool)
 | 0, _, _, _, _, _, _, _ => none
 | k + 1, x0, x1, x2, x10, x11, x511000, x512000 => if x11 < (x1.length : Int) then (plinthlaw25_TreeFew.j1 k x0 x1 x2 x10 x11 (decide (x11 < 8)) x511000 x512000) else (plinthlaw25_TreeFew.j1 k x0 x1 x2 x10 x11 false x511000 x512000)
def plinthlaw25_TreeFew.j1 : Nat → List Int → List Int → Int → Int → Int → Bool → List (List Int) → List (List Int) → Option (Bool)
 | 0, _, _, _, _, _, _, _, _ => none
 | k + 1, x0, x1, x2, x10, x11, x45, x511000, x512000 => if x45 = true then (if 0 ≤ x11 then (if x11 < (x1.length : Int) then (if (x0.length : Int) = 0 then (none) else ((tree_Put.f k x512000 (Int.tmod (wrap64 (rd x1 x11)) (x0.length : Int)) x2).bind fun bt513 => (if bt513.2 = 0 then (plinthlaw25_TreeFew.l0 k x0 x1 x2 (wrap64 (x10 + 1)) (wrap64 (x11 + 1)) x511000 bt513.1) else (some false)))) else (none)) else (none)) else ((tree_Diff.f k x511000 x512000).bind fun bt518 => (if bt518.2.2 = 0 then (if (x511000.length : Int) = (x512000.length : Int) then (if 0 < (x512000.length : Int) then (if ((rd_L1 x512000 0).length : Int) = (x0.length : Int) then (if bt518.2.1 > (wrap64 (1 + (wrap64 ((wrap64 (4 * x10)) * (wrap64 ((x511000.length : Int) - 1)))))) then (plinthlaw25_TreeFew.j2 k x0 bt518.1 true x512000) else (plinthlaw25_TreeFew.j2 k x0 bt518.1 (decide ((bt518.1.length : Int) > x10)) x512000)) else (plinthlaw25_TreeFew.j2 k x0 bt518.1 true x512000)) else (none)) else (plinthlaw25_TreeFew.j2 k x0 bt518.1 true x512000)) else (plinthlaw25_TreeFew.j2 k x0 bt518.1 true x512000)))
def plinthlaw25_TreeFew.j2 : Nat → List Int → List Int → Bool → List (List Int) → Option (Bool)
 | 0, _, _, _, _ => none
 | k + 1, x0, x14, x112, x512000 => if x112 = true then (some false) else (plinthlaw25_TreeFew.l1 k x0 x14 0 x512000)
def plinthlaw25_TreeFew.l1 : Nat → List Int → List Int → Int → List (List Int) → Option (Bool)
 | 0, _, _, _, _ => none
 | k + 1, x0, x14, x17, x512000 => if x17 < (x14.length : Int) then (if 0 ≤ x17 then (if (rd x14 x17) < 0 then (some false) else (if (rd x14 x17) ≥ (x0.length : Int) then (some false) else (if 0 < (x512000.length : Int) then (if 0 ≤ (rd x14 x17) then (if (rd x14 x17) < ((rd_L1 x512000 0).length : Int) then (if (rd x14 x17) < (x0.length : Int) then (if (rd (rd_L1 x512000 0) (rd x14 x17)) = (rd x0 (rd x14 x17)) then (some false) else (plinthlaw25_TreeFew.l1 k x0 x14 (wrap64 (x17 + 1)) x512000)) else (none)) else (none)) else (none)) else (none)))) else (none)) else (some true)
end
def plinthlaw25_TreeFew.f (k : Nat) (l0 : List Int) (l1 : List Int) (a2 : Int) : Option (Bool) := (plinthlaw25_awake.f k).bind fun t502 => (if t502 = true then ((plinthlaw25_few.f l0).bind fun t503 => ((tree_Make.f k t503).bind fun bt506 => (if bt506.2 = 0 then (plinthlaw25_TreeFew.l0 k t503 l1 a2 0 0 bt506.1 bt506.1) else (if (t503.length : Int) < 1 then (some true) else (some (decide ((t503.length : Int) > 4096))))))) else (some false))
theorem plinthlaw25_TreeFew.mono_l : ∀ k, (∀ y0 y1 y2 y3 y4 y5 y6, LeO (plinthlaw25_TreeFew.l0 k y0 y1 y2 y3 y4 y5 y6) (plinthlaw25_TreeFew.l0 (k + 1) y0 y1 y2 y3 y4 y5 y6)) ∧ (∀ y0 y1 y2 y3 y4 y5 y6 y7, LeO (plinthlaw25_TreeFew.j1 k y0 y1 y2 y3 y4 y5 y6 y7) (plinthlaw25_TreeFew.j1 (k + 1) y0 y1 y2 y3 y4 y5 y6 y7)) ∧ (∀ y0 y1 y2 y3, LeO (plinthlaw25_TreeFew.j2 k y0 y1 y2 y3) (plinthlaw25_TreeFew.j2 (k + 1) y0 y1 y2 y3)) ∧ (∀ y0 y1 y2 y3, LeO (plinthlaw25_TreeFew.l1 k y0 y1 y2 y3) (plinthlaw25_TreeFew.l1 (k + 1) y0 y1 y2 y3))
 | 0 => ⟨fun _ _ _ _ _ _ _ r h => by simp [plinthlaw25_TreeFew.l0] at h, fun _ _ _ _ _ _ _ _ r h => by simp [plinthlaw25_TreeFew.j1] at h, fun _ _ _ _ r h => by simp [plinthlaw25_TreeFew.j2] at h, fun _ _ _ _ r h => by simp [plinthlaw25_TreeFew.l1] at h⟩
 | k + 1 => by
  obtain ⟨ih0, ih1, ih2, ih3⟩ := plinthlaw25_TreeFew.mono_l k
  refine ⟨?_, ?_, ?_, ?_⟩
  ·intro y0 y1 y2 y3 y4 y5 y6
   unfold plinthlaw25_TreeFew.l0
   repeat' first
   | (with_reducible exact ih0 _ _ _ _ _ _ _)
   | (with_reducible exact ih1 _ _ _ _ _ _ _ _)
   | (with_reducible exact ih2 _ _ _ _)
   | (with_reducible exact ih3 _ _ _ _)
   | (with_reducible exact plinthlaw25_awake.mono _)
   | (with_reducible exact tree_Diff.mono _ _ _)
   | (with_reducible exact tree_Make.mono _ _)
   | (with_reducible exact tree_Put.mono _ _ _ _)
   | (with_reducible exact LeO.refl _)
   | (with_reducible exact LeO.none _)
   | (with_reducible refine LeO.ite ?_ ?_)
   | (with_reducible refine LeO.bind ?_ (fun _ => ?_))
   | exact ih0 _ _ _ _ _ _ _
   | exact ih1 _ _ _ _ _ _ _ _
   | exact ih2 _ _ _ _
   | exact ih3 _ _ _ _
   | exact plinthlaw25_awake.mono _
   | exact tree_Diff.mono _ _ _
   | exact tree_Make.mono _ _
   | exact tree_Put.mono _ _ _ _
   | exact LeO.none _
   | refine LeO.ite ?_ ?_
   | refine LeO.bind ?_ (fun _ => ?_)
  ·intro y0 y1 y2 y3 y4 y5 y6 y7
   unfold plinthlaw25_TreeFew.j1
   repeat' first
   | (with_reducible exact ih0 _ _ _ _ _ _ _)
   | (with_reducible exact ih1 _ _ _ _ _ _ _ _)
   | (with_reducible exact ih2 _ _ _ _)
   | (with_reducible exact ih3 _ _ _ _)
   | (with_reducible exact plinthlaw25_awake.mono _)
   | (with_reducible exact tree_Diff.mono _ _ _)
   | (with_reducible exact tree_Make.mono _ _)
   | (with_reducible exact tree_Put.mono _ _ _ _)
   | (with_reducible exact LeO.refl _)
   | (with_reducible exact LeO.none _)
   | (with_reducible refine LeO.ite ?_ ?_)
   | (with_reducible refine LeO.bind ?_ (fun _ => ?_))
   | exact ih0 _ _ _ _ _ _ _
   | exact ih1 _ _ _ _ _ _ _ _
   | exact ih2 _ _ _ _
   | exact ih3 _ _ _ _
   | exact plinthlaw25_awake.mono _
   | exact tree_Diff.mono _ _ _
   | exact tree_Make.mono _ _
   | exact tree_Put.mono _ _ _ _
   | exact LeO.none _
   | refine LeO.ite ?_ ?_
   | refine LeO.bind ?_ (fun _ => ?_)
  ·intro y0 y1 y2 y3
   unfold plinthlaw25_TreeFew.j2
   repeat' first
   | (with_reducible exact ih0 _ _ _ _ _ _ _)
   | (with_reducible exact ih1 _ _ _ _ _ _ _ _)
   | (with_reducible exact ih2 _ _ _ _)
   | (with_reducible exact ih3 _ _ _ _)
   | (with_reducible exact plinthlaw25_awake.mono _)
   | (with_reducible exact tree_Diff.mono _ _ _)
   | (with_reducible exact tree_Make.mono _ _)
   | (with_reducible exact tree_Put.mono _ _ _ _)
   | (with_reducible exact LeO.refl _)
   | (with_reducible exact LeO.none _)
   | (with_reducible refine LeO.ite ?_ ?_)
   | (with_reducible refine LeO.bind ?_ (fun _ => ?_))
   | exact ih0 _ _ _ _ _ _ _
   | exact ih1 _ _ _ _ _ _ _ _
   | exact ih2 _ _ _ _
   | exact ih3 _ _ _ _
   | exact plinthlaw25_awake.mono _
   | exact tree_Diff.mono _ _ _
   | exact tree_Make.mono _ _
   | exact tree_Put.mono _ _ _ _
   | exact LeO.none _
   | refine LeO.ite ?_ ?_
   | refine LeO.bind ?_ (fun _ => ?_)
  ·intro y0 y1 y2 y3
   unfold plinthlaw25_TreeFew.l1
   repeat' first
   | (with_reducible exact ih0 _ _ _ _ _ _ _)
   | (with_reducible exact ih1 _ _ _ _ _ _ _ _)
   | (with_reducible exact ih2 _ _ _ _)
   | (with_reducible exact ih3 _ _ _ _)
   | (with_reducible exact plinthlaw25_awake.mono _)
   | (with_reducible exact tree_Diff.mono _ _ _)
   | (with_reducible exact tree_Make.mono _ _)
   | (with_reducible exact tree_Put.mono _ _ _ _)
   | (with_reducible exact LeO.refl _)
   | (with_reducible exact LeO.none _)
   | (with_reducible refine LeO.ite ?_ ?_)
   | (with_reducible refine LeO.bind ?_ (fun _ => ?_))
   | exact ih0 _ _ _ _ _ _ _
   | exact ih1 _ _ _ _ _ _ _ _
   | exact ih2 _ _ _ _
   | exact ih3 _ _ _ _
   | exact plinthlaw25_awake.mono _
   | exact tree_Diff.mono _ _ _
   | exact tree_Make.mono _ _
   | exact tree_Put.mono _ _ _ _
   | exact LeO.none _
   | refine LeO.ite ?_ ?_
   | refine LeO.bind ?_ (fun _ => ?_)
theorem plinthlaw25_TreeFew.mono : ∀ a0 a1 a2 k, LeO (plinthlaw25_TreeFew.f k a0 a1 a2) (plinthlaw25_TreeFew.f (k + 1) a0 a1 a2) := by
 intro a0 a1 a2 k
 obtain ⟨ih0, ih1, ih2, ih3⟩ := plinthlaw25_TreeFew.mono_l k
 unfold plinthlaw25_TreeFew.f
 repeat' first
   | (with_reducible exact ih0 _ _ _ _ _ _ _)
   | (with_reducible exact ih1 _ _ _ _ _ _ _ _)
   | (with_reducible exact ih2 _ _ _ _)
   | (with_reducible exact ih3 _ _ _ _)
   | (with_reducible exact plinthlaw25_awake.mono _)
   | (with_reducible exact tree_Diff.mono _ _ _)
   | (with_reducible exact tree_Make.mono _ _)
   | (with_reducible exact tree_Put.mono _ _ _ _)
   | (with_reducible exact LeO.refl _)
   | (with_reducible exact LeO.none _)
   | (with_reducible refine LeO.ite ?_ ?_)
   | (with_reducible refine LeO.bind ?_ (fun _ => ?_))
   | exact ih0 _ _ _ _ _ _ _
   | exact ih1 _ _ _ _ _ _ _ _
   | exact ih2 _ _ _ _
   | exact ih3 _ _ _ _
   | exact plinthlaw25_awake.mono _
   | exact tree_Diff.mono _ _ _
   | exact tree_Make.mono _ _
   | exact tree_Put.mono _ _ _ _
   | exact LeO.none _
   | refine LeO.ite ?_ ?_
   | refine LeO.bind ?_ (fun _ => ?_)
def plinthlaw25_TreeFew.T12 : Bool × List (List Nat × List Nat) := (true, [([], []), ([], []), ([], []), ([1, 2], [1, 2]), ([3], [3]), ([4], [4]), ([], []), ([6], [6]), ([5, 7], [5, 7]), ([], []), ([0, 8, 9], [0, 8, 9]), ([10], [10]), ([11], [11]), ([11], [11]), ([], []), ([14, 12, 10, 0, 1, 2, 3, 4, 5, 6, 7, 8, 9, 10, 11, 12, 14], [12, 14]), ([13, 15, 0, 1, 2, 3, 4, 5, 6, 7, 8, 9, 10, 11, 12, 13, 14, 15], [13])])
def plinthlaw25_TreeFew.B12 : List Nat := [0, 0, 0, 6, 14, 30, 0, 64, 254, 0, 1023, 2047, 4095, 4095, 0, 24575, 65535]
theorem plinthlaw25_TreeFew.tab12 : rtab .any (opsOf Try.f8 12) = plinthlaw25_TreeFew.T12 := by kernel_rfl
theorem plinthlaw25_TreeFew.bits12 : waitsOk plinthlaw25_TreeFew.T12.2 plinthlaw25_TreeFew.B12 = true := by kernel_rfl
def plinthlaw25_TreeFew.T23 : Bool × List (List Nat × List Nat) := (true, [([], []), ([], []), ([0, 1], [0, 1]), ([2], [2]), ([3], [3]), ([4], [4]), ([5], [5]), ([5], [5]), ([6, 7, 5], [5, 6, 7]), ([8, 5], [5, 8]), ([5], [5]), ([10, 5], [5, 10]), ([9, 11, 5], [5, 9, 11]), ([5, 12], [5, 12]), ([13, 5], [13]), ([14], [14]), ([15, 14], [14, 15]), ([16, 14], [14, 16]), ([17, 14], [14, 17]), ([14], [14]), ([14], [14]), ([19, 20, 14], [14, 19, 20]), ([21, 14], [14, 21]), ([18, 22, 14], [14, 18, 22]), ([23, 14], [14, 23]), ([14], [14]), ([14], [14]), ([14], [14]), ([26, 27, 14], [14, 26, 27]), ([28, 14], [14, 28]), ([25, 29, 14], [14, 25, 29]), ([30, 14], [14, 30]), ([24, 31, 14], [14, 24, 31]), ([14, 32], [14, 32])])
def plinthlaw25_TreeFew.B23 : List Nat := [0, 0, 3, 7, 15, 31, 63, 63, 255, 511, 63, 1087, 4095, 8191, 16383, 32767, 65535, 131071, 262143, 32767, 32767, 1605631, 3702783, 8388607, 16777215, 32767, 32767, 32767, 201359359, 469794815, 1040220159, 2113961983, 4294967295, 8589934591]
theorem plinthlaw25_TreeFew.tab23 : rtab .any (opsOf Try.f8 23) = plinthlaw25_TreeFew.T23 := by kernel_rfl
theorem plinthlaw25_TreeFew.bits23 : waitsOk plinthlaw25_TreeFew.T23.2 plinthlaw25_TreeFew.B23 = true := by kernel_rfl
set_option maxHeartbeats 8000000 in
set_option maxRecDepth 100000 in
theorem plinthlaw25_TreeFew.calls (k : Nat) (A0 : Option Addr) (c0 : Nat) (l0 : List Int) (A1 : Option Addr) (c1 : Nat) (l1 : List Int) (a2 : Int) (r : Bool) (w : World) (hr0 : Kd.C (Kd.int .u32) w A0 l0.length l0) (hc0 : l0.length ≤ c0) (hr1 : Kd.C (Kd.int .u16) w A1 l1.length l1) (hc1 : l1.length ≤ c1) (hr_ : Aside0 (r = true)) (h : plinthlaw25_TreeFew.f k l0 l1 a2 = some r) :
  Calls Try.prog 8 #[.slice A0 l0.length c0, .slice A1 l1.length c1, .int .u32 a2] w fun e w' => e = .returned (.bool r) ∧ Below w.heap.size w w' := by
 have hu24 := Try.underlying24
 have HR0 := Aside0.mk hr0
 have HC0 := Aside0.mk hc0
 clear hr0 hc0
 have HR1 := Aside0.mk hr1
 have HC1 := Aside0.mk hc1
 clear hr1 hc1
 have HB := Aside0.mk (Below.refl w.heap.size w)
 have H : ((plinthlaw25_awake.f k).bind fun t502 => (if t502 = true then ((plinthlaw25_few.f l0).bind fun t503 => ((tree_Make.f k t503).bind fun bt506 => (if bt506.2 = 0 then (plinthlaw25_TreeFew.l0 k t503 l1 a2 0 0 bt506.1 bt506.1) else (if (t503.length : Int) < 1 then (some true) else (some (decide ((t503.length : Int) > 4096))))))) else (some false))) = some r := h
 clear h
 replace H := Option.bind_eq_some_iff.mp H
 obtain ⟨t502, A40, H⟩ := H
 replace H : (if t502 = true then ((plinthlaw25_few.f l0).bind fun t503 => ((tree_Make.f k t503).bind fun bt506 => (if bt506.2 = 0 then (plinthlaw25_TreeFew.l0 k t503 l1 a2 0 0 bt506.1 bt506.1) else (if (t503.length : Int) < 1 then (some true) else (some (decide ((t503.length : Int) > 4096))))))) else (some false)) = some r := H
 have A4 := Aside0.mk A40
 clear A40
 by_cases c5 : t502 = true
 ·subst c5
  have H1 : ((plinthlaw25_few.f l0).bind fun t503 => ((tree_Make.f k t503).bind fun bt506 => (if bt506.2 = 0 then (plinthlaw25_TreeFew.l0 k t503 l1 a2 0 0 bt506.1 bt506.1) else (if (t503.length : Int) < 1 then (some true) else (some (decide ((t503.length : Int) > 4096))))))) = some r := by rw [if_pos rfl] at H; exact H
  clear H
  have H := H1
  clear H1
  replace H := Option.bind_eq_some_iff.mp H
  obtain ⟨t503, A60, H⟩ := H
  replace H : ((tree_Make.f k t503).bind fun bt506 => (if bt506.2 = 0 then (plinthlaw25_TreeFew.l0 k t503 l1 a2 0 0 bt506.1 bt506.1) else (if (t503.length : Int) < 1 then (some true) else (some (decide ((t503.length : Int) > 4096)))))) = some r := H
  have A6 := Aside0.mk A60
  clear A60
  replace H := Option.bind_eq_some_iff.mp H
  obtain ⟨⟨t506, t509⟩, A70, H⟩ := H
  replace H : (if t509 = 0 then (plinthlaw25_TreeFew.l0 k t503 l1 a2 0 0 t506 t506) else (if (t503.length : Int) < 1 then (some true) else (some (decide ((t503.length : Int) > 4096))))) = some r := H
  have A7 := Aside0.mk A70
  clear A70
  by_cases c8 : t509 = 0
  ·rw [if_pos c8] at H
   have c8b0 : (t509 == 0) = true := beq_iff_eq.mpr c8
   have c8b1 : (t509 != 0) = false := bne_eq_false_iff_eq.mpr c8
   clear c8
   have H' := Aside0.mk H
   clear H
   go_enter Try.func8, Try.ntmps8
   go_wp2_with (first | ((with_reducible refine gate_callee (f := 19) rfl ?_); refine goesL_ (some 18) rfl rfl Try.func19 (by kernel_rfl) rfl #[] rfl argA ?_; (with_reducible refine (plinthlaw25_awake.calls k  true _ A4.out).mono ?_); rintro e w9 ⟨rfl, hb⟩; refine ⟨_, rfl, ?_⟩; replace HB := Aside0.mk (below_step (upB0 HB.out) hb); (try clear hb); (try clear hb2); (try clear hk); (try clear hi)) | ((with_reducible refine gate_callee (f := 20) rfl ?_); refine goesL_ (some 21) rfl rfl Try.func20 (by kernel_rfl) rfl #[.slice A0 l0.length c0] rfl argA ?_; (with_reducible refine (plinthlaw25_few.calls (fun k_ => k_ < w.heap.size) _ _ l0 t503 _ ?side1 A6.out).mono ?_); (case side1 => exact Kd.V_mk HC0.out (Kd.F_below (Kd.C_F (Kd.heap_int .u32) HR0.out) (upB0 HB.out))); rintro e w10 ⟨v504, rfl, ho0, hb⟩; refine ⟨_, rfl, ?_⟩; have HO505 := Aside0.mk (Kd.V_lower (Kd.V_mono (ok' := fun k_ => True) ho0 (fun k_ hk_ => trivial)) (below_size (upB0 HB.out))); replace HB := Aside0.mk (below_step (upB0 HB.out) hb); (try clear hb); (try clear hb2); (try clear hk); (try clear hi); (try clear ho0); obtain ⟨Ao11, co11, eo11⟩ := Kd.V_slice HO505.out; subst eo11) | ((with_reducible refine gate_callee (f := 21) rfl ?_); refine goesL_ (some 24) rfl rfl Try.func21 (by kernel_rfl) rfl #[.slice Ao11 t503.length co11] rfl argA ?_; (with_reducible refine (tree_Make.calls k _ _ t503 t506 t509 _ ?side1 ?side2 A7.out).mono ?_); (case side1 => exact upC ((Kd.V_reads' HO505.out).2.2)); (case side2 => exact (Kd.V_reads' HO505.out).2.1); rintro e w12 ⟨v507, rfl, ho0, hb⟩; refine ⟨_, rfl, ?_⟩; replace HO505 := Aside0.mk (Kd.V_below (upV HO505.out) hb); have HO508 := Aside0.mk (Kd.V_lower (Kd.V_mono (ok' := fun k_ => True) ho0 (fun k_ hk_ => trivial)) (below_size (upB0 HB.out))); replace HB := Aside0.mk (below_step (upB0 HB.out) hb); (try clear hb); (try clear hb2); (try clear hk); (try clear hi); (try clear ho0)) | ((with_reducible refine gate_dst (N := 7) rfl ?_); (try (refine gate_guard (by rfl) ?_; dsimp only)); refine box_event ?hg (N := 7) ?hd (cs := #[.slice none 0 0]) (t := 24) ?hr ?_; (case hd => rfl); (case hg => rfl); (case hr => first | (go_simp; done) | (go_simp; rfl)); intro gb510 hg w13 hbox hb; replace HO505 := Aside0.mk (Kd.V_below (Kd.V_elderB (upV HO505.out) gb510 (Nat.le_of_eq hg.symm)) hb); replace HO508 := Aside0.mk (Kd.V_below (Kd.V_elderB (upV HO508.out) gb510 (Nat.le_of_eq hg.symm)) hb); have BK510 := Aside0.mk (hbox); have GW510 := Aside0.mk ((by rw [hg]; exact (below_size (upB0 HB.out)) : w.heap.size ≤ gb510)); have GE510 := Aside0.mk ((by rw [hg]; exact (below_size (upB0 HB.out)) : w.heap.size ≤ gb510)); replace HB := Aside0.mk (below_step (upB0 HB.out) hb); clear hb hbox hg; obtain ⟨Ao14, co14, eo14⟩ := Kd.V_slice HO508.out; subst eo14; obtain ⟨hcz15_0, hfz15_0⟩ := cells1 BK510.out) | ((with_reducible refine gate_dst (N := 9) rfl ?_); (try (refine gate_guard (by rfl) ?_; dsimp only)); refine box_event ?hg (N := 9) ?hd (cs := #[.slice none 0 0]) (t := 24) ?hr ?_; (case hd => rfl); (case hg => rfl); (case hr => first | (go_simp; done) | (go_simp; rfl)); intro gb511 hg w16 hbox hb; replace HO505 := Aside0.mk (Kd.V_below (Kd.V_elderB (by refine upV ?_; exact (fV1 (Kd.V_mono HO505.out (fun k_ hk => (⟨hk, hk.2⟩ : _ ∧ k_ ≠ gb510))))) gb511 (Nat.le_of_eq hg.symm)) hb); replace HO508 := Aside0.mk (Kd.V_below (Kd.V_elderB (by refine upV ?_; exact (fV1 (Kd.V_mono HO508.out (fun k_ hk => (⟨hk, hk.2⟩ : _ ∧ k_ ≠ gb510))))) gb511 (Nat.le_of_eq hg.symm)) hb); have BK511 := Aside0.mk (hbox); have GW511 := Aside0.mk ((by rw [hg]; exact (below_size (upB1 HB.out GE510.out)) : w.heap.size ≤ gb511)); have GE511 := Aside0.mk ((by rw [hg]; exact (below_size (upB1 HB.out GE510.out)) : w.heap.size ≤ gb511)); replace HB := Aside0.mk (below_step (upB1 HB.out GE510.out) hb); have NB510_511 := Aside0.mk ((by rw [hg]; exact Nat.ne_of_lt (blk_lt (g := gb510) (o := .cells #[.slice Ao14 t506.length co14] 24 (0, 0)) (by refine upK ?_; refine blk_put (cs := #[.slice none 0 0]) ?_ 0 _ rfl; refine upK ?_; exact BK510.out)) : gb510 ≠ gb511)); have NB511_510 := Aside0.mk ((by rw [hg]; exact Nat.ne_of_gt (blk_lt (g := gb510) (o := .cells #[.slice Ao14 t506.length co14] 24 (0, 0)) (by refine upK ?_; refine blk_put (cs := #[.slice none 0 0]) ?_ 0 _ rfl; refine upK ?_; exact BK510.out)) : gb511 ≠ gb510)); replace BK510 := Aside0.mk (blk_below (g := gb510) (o := .cells #[.slice Ao14 t506.length co14] 24 (0, 0)) (by refine upK ?_; refine blk_put (cs := #[.slice none 0 0]) ?_ 0 _ rfl; refine upK ?_; exact BK510.out) hb); clear hb hbox hg; have hnb17 := NB511_510.out; have hnc17 := NB510_511.out; obtain ⟨hcz18_0, hfz18_0⟩ := cells1 BK511.out))
   go_loopg [10, 11] k (fun kq v10 v11 w' => ∃ (x10_1 : Int) (x11_1 : Int) (x512000_1 : List (List Int)) (u512000 : Value), v10 = .int .i64 x10_1 ∧ v11 = .int .i64 x11_1 ∧ Aside0 (plinthlaw25_TreeFew.l0 kq t503 l1 a2 x10_1 x11_1 t506 x512000_1 = some r) ∧ Aside0 (kq ≤ k) ∧ Aside0 (Kd.V (Kd.int .u32) 25 w' w.heap.size (fun k_ => k_ ≠ gb510 ∧ k_ ≠ gb511) (.slice Ao11 t503.length co11) t503) ∧ Aside0 (Kd.V (Kd.slice 25 (Kd.int .u32)) 40 w' w.heap.size (fun k_ => k_ ≠ gb510 ∧ k_ ≠ gb511) (.slice Ao14 t506.length co14) t506) ∧ Aside0 (Kd.V (Kd.slice 25 (Kd.int .u32)) 40 w' w.heap.size (fun k_ => k_ ≠ gb510 ∧ k_ ≠ gb511) u512000 x512000_1) ∧ Aside0 (w'.heap[gb510]? = some (.cells #[(.slice Ao14 t506.length co14)] 24 (0, 0))) ∧ Aside0 (w'.heap[gb511]? = some (.cells #[u512000] 24 (0, 0))) ∧ Aside0 (Below w.heap.size w w'))
   case atStart => exact ⟨(0), (0), (t506), (.slice Ao14 t506.length co14), (by first | rfl | (simp; done) | (simp [*]; done)), (by first | rfl | (simp; done) | (simp [*]; done)), H', ⟨Nat.le_refl _⟩, ⟨by refine upV ?_; exact Kd.V_mono (garV1 (g := gb511) (Kd.V_mono HO505.out (fun k_ hk => (⟨hk, hk.2⟩ : _ ∧ k_ ≠ gb511))) 0 (.slice Ao14 t506.length co14)) (fun _ hk => ⟨hk.1.1.2, hk.1.2⟩)⟩, ⟨by refine upV ?_; exact Kd.V_mono (garV1 (g := gb511) (Kd.V_mono HO508.out (fun k_ hk => (⟨hk, hk.2⟩ : _ ∧ k_ ≠ gb511))) 0 (.slice Ao14 t506.length co14)) (fun _ hk => ⟨hk.1.1.2, hk.1.2⟩)⟩, ⟨by refine upV ?_; exact Kd.V_mono (garV1 (g := gb511) (Kd.V_mono HO508.out (fun k_ hk => (⟨hk, hk.2⟩ : _ ∧ k_ ≠ gb511))) 0 (.slice Ao14 t506.length co14)) (fun _ hk => ⟨hk.1.1.2, hk.1.2⟩)⟩, ⟨by refine upK ?_; refine blk_far ?_ NB510_511.out _; refine upK ?_; exact BK510.out⟩, ⟨by refine upK ?_; refine blk_put (cs := #[.slice none 0 0]) ?_ 0 _ rfl; refine upK ?_; exact BK511.out⟩, ⟨upB2 HB.out GE510.out GE511.out⟩⟩
   case round =>
    clear H'
    (try clear c1); (try clear c2); (try clear p2); (try clear c5); (try clear c8); (try clear c8b0); (try clear c8b1); (try clear c17); (try clear hcz15_0); (try clear hcz18_0); (try clear hfz15_0); (try clear hfz18_0)
    obtain ⟨x10_1, x11_1, x512000_1, u512000, rfl, rfl, HA, HK1, HO_0, HO_511000, HO_512000, BK510, BK511, HB⟩ := hrel
    cases gk with
    | zero => exact absurd HA.out (by simp [plinthlaw25_TreeFew.l0])
    | succ k1 =>
     have H := HA.out
     clear HA
     simp only [plinthlaw25_TreeFew.l0] at H
     have HC19 := Aside0.mk H
     clear H
     go_upto_region 10 with (fail)
     go_cut [45] (fun v45 wc => ∃ (kq : Nat) (x45_18 : Bool), v45 = .bool x45_18 ∧ Aside0 (plinthlaw25_TreeFew.j1 kq t503 l1 a2 x10_1 x11_1 x45_18 t506 x512000_1 = some r) ∧ Aside0 (kq ≤ k1) ∧ Aside0 (Kd.V (Kd.int .u32) 25 wc w.heap.size (fun k_ => k_ ≠ gb510 ∧ k_ ≠ gb511) (.slice Ao11 t503.length co11) t503) ∧ Aside0 (Kd.V (Kd.slice 25 (Kd.int .u32)) 40 wc w.heap.size (fun k_ => k_ ≠ gb510 ∧ k_ ≠ gb511) (.slice Ao14 t506.length co14) t506) ∧ Aside0 (Kd.V (Kd.slice 25 (Kd.int .u32)) 40 wc w.heap.size (fun k_ => k_ ≠ gb510 ∧ k_ ≠ gb511) u512000 x512000_1) ∧ Aside0 (wc.heap[gb510]? = some (.cells #[(.slice Ao14 t506.length co14)] 24 (0, 0))) ∧ Aside0 (wc.heap[gb511]? = some (.cells #[u512000] 24 (0, 0))) ∧ Aside0 (Below w.heap.size w wc))
     case first =>
      have H := HC19.out
      clear HC19
      by_cases c20 : x11_1 < (l1.length : Int)
      ·rw [if_pos c20] at H
       have c20b0 : decide (x11_1 < (l1.length : Int)) = true := decide_eq_true c20
       clear c20
       (first | rw [c20b0] | (simp only [i64_w, i32_w]; rw [c20b0]) | skip)
       have H' := Aside0.mk H
       clear H
       go_wp2
       go_meet
       case rel => exact ⟨_, (decide (x11_1 < 8)), (by first | rfl | (simp; done) | (simp [*]; done)), H', ⟨by have := HK1.out; first | omega | exact Nat.le_refl _⟩, ⟨by refine upV ?_; exact HO_0.out⟩, ⟨by refine upV ?_; exact HO_511000.out⟩, ⟨by refine upV ?_; exact HO_512000.out⟩, ⟨by refine upK ?_; exact BK510.out⟩, ⟨by refine upK ?_; exact BK511.out⟩, ⟨upB2 HB.out GE510.out GE511.out⟩⟩
      ·rw [if_neg c20] at H
       have c20b0 : decide (x11_1 < (l1.length : Int)) = false := decide_eq_false c20
       clear c20
       (first | rw [c20b0] | (simp only [i64_w, i32_w]; rw [c20b0]) | skip)
       have H' := Aside0.mk H
       clear H
       go_wp2
       go_meet
       case rel => exact ⟨_, (false), (by first | rfl | (simp; done) | (simp [*]; done)), H', ⟨by have := HK1.out; first | omega | exact Nat.le_refl _⟩, ⟨by refine upV ?_; exact HO_0.out⟩, ⟨by refine upV ?_; exact HO_511000.out⟩, ⟨by refine upV ?_; exact HO_512000.out⟩, ⟨by refine upK ?_; exact BK510.out⟩, ⟨by refine upK ?_; exact BK511.out⟩, ⟨upB2 HB.out GE510.out GE511.out⟩⟩
     case rest =>
      clear HC19
      (try clear c1); (try clear c2); (try clear p2); (try clear c5); (try clear c8); (try clear c8b0); (try clear c8b1); (try clear c17); (try clear c19); (try clear c20); (try clear c20b0); (try clear hcz15_0); (try clear hcz18_0); (try clear hfz15_0); (try clear hfz18_0); (try clear p2)
      obtain ⟨kq, x45_18, rfl, HA, HJ18, HO_0, HO_511000, HO_512000, BK510, BK511, HB⟩ := hcut
      cases kq with
      | zero => exact absurd HA.out (by simp [plinthlaw25_TreeFew.j1])
      | succ kj18 =>
       have H := HA.out
       clear HA
       simp only [plinthlaw25_TreeFew.j1] at H
       by_cases c21 : x45_18 = true
       ·subst c21
        have H1 : (if 0 ≤ x11_1 then (if x11_1 < (l1.length : Int) then (if (t503.length : Int) = 0 then (none) else ((tree_Put.f kj18 x512000_1 (Int.tmod (wrap64 (rd l1 x11_1)) (t503.length : Int)) a2).bind fun bt513 => (if bt513.2 = 0 then (plinthlaw25_TreeFew.l0 kj18 t503 l1 a2 (wrap64 (x10_1 + 1)) (wrap64 (x11_1 + 1)) t506 bt513.1) else (some false)))) else (none)) else (none)) = some r := by rw [if_pos rfl] at H; exact H
        clear H
        have H := H1
        clear H1
        by_cases c22 : 0 ≤ x11_1
        ·rw [if_pos c22] at H
         have c22b0 : decide (0 ≤ x11_1) = true := decide_eq_true c22
         clear c22
         by_cases c23 : x11_1 < (l1.length : Int)
         ·rw [if_pos c23] at H
          have c23b0 : decide (x11_1 < (l1.length : Int)) = true := decide_eq_true c23
          clear c23
          by_cases c24 : (t503.length : Int) = 0
          ·rw [if_pos c24] at H
           exact absurd H (by simp)
          ·rw [if_neg c24] at H
           have c24b0 : ((t503.length : Int) == 0) = false := beq_eq_false_iff_ne.mpr c24
           have c24b1 : ((t503.length : Int) != 0) = true := bne_iff_ne.mpr c24
           have c24b2 : ¬ (t503 = []) := fun h_ => c24 (by rw [h_]; rfl)
           replace H := Option.bind_eq_some_iff.mp H
           obtain ⟨⟨t513, t516⟩, A250, H⟩ := H
           replace H : (if t516 = 0 then (plinthlaw25_TreeFew.l0 kj18 t503 l1 a2 (wrap64 (x10_1 + 1)) (wrap64 (x11_1 + 1)) t506 t513) else (some false)) = some r := H
           have A25 := Aside0.mk A250
           clear A250
           by_cases c26 : t516 = 0
           ·rw [if_pos c26] at H
            have c26b0 : (t516 == 0) = true := beq_iff_eq.mpr c26
            have c26b1 : (t516 != 0) = false := bne_eq_false_iff_eq.mpr c26
            clear c26
            have H' := Aside0.mk H
            clear H
            obtain ⟨Ao27, co27, eo27⟩ := Kd.V_slice HO_512000.out
            subst eo27
            try go_wp2
            replace HO_0 := Aside0.mk (Kd.V_drew HO_0.out)
            replace HO_511000 := Aside0.mk (Kd.V_drew HO_511000.out)
            replace HO_512000 := Aside0.mk (Kd.V_drew HO_512000.out)
            replace BK510 := Aside0.mk (blk_drew BK510.out)
            replace BK511 := Aside0.mk (blk_drew BK511.out)
            replace HB := Aside0.mk (below_drew1 HB.out)
            have p512 : 0 ≤ (x11_1 : Int) := of_decide_eq_true (by first | (with_reducible assumption) | assumption)
            have q512 : x11_1 < (l1.length : Int) := of_decide_eq_true (by first | (with_reducible assumption) | assumption)
            obtain ⟨ad512, e512, hx512_0⟩ := Kd.at_int HR1.out x11_1 p512 q512
            have hw512_0 := hx512_0
            cases e512
            replace hx512_0 := (HB.out.cell (World.block_lt_of_cell? w _ hx512_0)).trans hx512_0
            replace p512 := eq_true p512
            replace q512 := eq_true q512
            refine start_ (n := 17) (S := fun w' => w'.cell? ⟨gb511, 0, none⟩ = some (.slice Ao27 x512000_1.length co27) ∧ w'.cell? (ad512.add (x11_1).toNat) = some (.int .u16 (rd l1 x11_1))) (ds := []) (Array.replicate 17 false) (by kernel_rfl) rfl rfl ⟨(blk_cell BK511.out 0).trans rfl, ((HB.out.cell (World.block_lt_of_cell? w _ hw512_0)).trans hw512_0)⟩ (fun hHeld => ?_); refine with_tabW plinthlaw25_TreeFew.tab12 plinthlaw25_TreeFew.bits12 (fun HT_ HW_ => ?_)
            generalize wc.drew = w28 at HO_0 HO_511000 HO_512000 BK510 BK511 HB hx512_0 hHeld ⊢
            refine pM 1 50 HT_.out ?_; refine pM 2 51 HT_.out ?_; refine pM 3 52 HT_.out ?_; refine pM 6 55 HT_.out ?_; refine pM 7 56 HT_.out ?_; refine pM 9 58 HT_.out ?_; refine tM 0 49 HT_.out HW_.out hHeld ?_; refine tM 4 53 HT_.out HW_.out hHeld ?_; refine pM 5 54 HT_.out ?_; refine pM 8 57 HT_.out ?_
            refine join_ (σ := Value × Nat) 2 #[true, true, true, true, true, true, true, true, true, true, true, true, true, true, true, false, false] (fun s_ => [(59, .tuple #[.agg #[s_.1], .int .i64 t516]), (12, .pointer (some ⟨s_.2, 0, none⟩)), (48, .tuple #[.agg #[s_.1], .int .i64 t516]), (60, .agg #[s_.1]), (61, .int .i64 t516)]) (fun s_ w' => (w'.cell? ⟨gb511, 0, none⟩ = some (.slice Ao27 x512000_1.length co27) ∧ w'.cell? (ad512.add (x11_1).toNat) = some (.int .u16 (rd l1 x11_1))) ∧ (Kd.V (Kd.slice 25 (Kd.int .u32)) 40 w' w.heap.size (fun k_ => k_ ≠ gb510 ∧ k_ ≠ gb511 ∧ k_ ≠ s_.2) s_.1 t513) ∧ (Kd.V (Kd.int .u32) 25 w' w.heap.size (fun k_ => k_ ≠ gb510 ∧ k_ ≠ gb511 ∧ k_ ≠ s_.2) (.slice Ao11 t503.length co11) t503) ∧ (Kd.V (Kd.slice 25 (Kd.int .u32)) 40 w' w.heap.size (fun k_ => k_ ≠ gb510 ∧ k_ ≠ gb511 ∧ k_ ≠ s_.2) (.slice Ao14 t506.length co14) t506) ∧ (Kd.V (Kd.slice 25 (Kd.int .u32)) 40 w' w.heap.size (fun k_ => k_ ≠ gb510 ∧ k_ ≠ gb511 ∧ k_ ≠ s_.2) (.slice Ao27 x512000_1.length co27) x512000_1) ∧ (w'.heap[gb510]? = some (.cells #[.slice Ao14 t506.length co14] 24 (0, 0))) ∧ (w'.heap[gb511]? = some (.cells #[.slice Ao27 x512000_1.length co27] 24 (0, 0))) ∧ (w'.heap[s_.2]? = some (.cells #[.slice none 0 0] 24 (0, 0))) ∧ (w.heap.size ≤ s_.2) ∧ (w.heap.size ≤ s_.2) ∧ (gb510 ≠ s_.2) ∧ (s_.2 ≠ gb510) ∧ (gb511 ≠ s_.2) ∧ (s_.2 ≠ gb511) ∧ (Below w.heap.size w w')) ?_ ?_
            rotate_left
            ·intro hCont
             refine two_ (i := 10) (j := 14) (Ni := some 59) (Nj := some 12) #[true, true, true, true, true, true, true, true, true, true, true, false, false, false, false, false, false] #[true, true, true, true, true, true, true, true, true, true, false, false, false, false, true, false, false] rfl rfl rfl rfl (two_of HT_.out (by kernel_rfl)) (by decide) (by decide) (fun K hK => ?_) (fun K hK => ?_)
             ·skip
              refine gM Try.func30 #[.agg #[.slice Ao27 x512000_1.length co27], .int .i64 (Int.tmod (wrap64 (rd l1 x11_1)) (t503.length : Int)), .int .u32 a2] ?_
              with_reducible refine (tree_Put.calls kj18 _ _ x512000_1 (Int.tmod (wrap64 (rd l1 x11_1)) (t503.length : Int)) a2 t513 t516 _ ?side1 ?side2 A25.out).mono ?_
              (case side1 => exact upC ((Kd.V_reads' HO_512000.out).2.2))
              (case side2 => exact (Kd.V_reads' HO_512000.out).2.1)
              rintro e w29 ⟨v514, rfl, ho0, hb⟩
              refine ⟨_, rfl, ?_⟩
              replace HO_0 := Aside0.mk (Kd.V_below (upV HO_0.out) hb)
              replace HO_511000 := Aside0.mk (Kd.V_below (upV HO_511000.out) hb)
              replace HO_512000 := Aside0.mk (Kd.V_below (upV HO_512000.out) hb)
              have HO515 := Aside0.mk (Kd.V_lower (Kd.V_mono (ok' := fun k_ => k_ ≠ gb510 ∧ k_ ≠ gb511) ho0 (fun k_ hk_ => ⟨(Kd.freshB (upK BK510.out) k_ hk_), (Kd.freshB (upK BK511.out) k_ hk_)⟩)) (below_size (upB2 HB.out GE510.out GE511.out)))
              replace BK510 := Aside0.mk (blk_below (upK BK510.out) hb)
              replace BK511 := Aside0.mk (blk_below (upK BK511.out) hb)
              replace HB := Aside0.mk (below_step (upB2 HB.out GE510.out GE511.out) hb)
              (try clear hb); (try clear hb2); (try clear hk); (try clear hi); (try clear ho0)
              refine hK.out _ _ ⟨(blk_cell BK511.out 0).trans rfl, ((HB.out.cell (World.block_lt_of_cell? w _ hw512_0)).trans hw512_0)⟩ (fun hHeld => ?_)
              clear hK K
              refine nM 59 ?_; refine pM 11 48 HT_.out ?_; refine pM 12 60 HT_.out ?_; refine pM 13 61 HT_.out ?_
              refine oM 14 12 HT_.out (fun K hK => ?_)
              refine box_step ?hg (N := 12) ?hd (cs := #[.slice none 0 0]) (t := 24) ?hr ?_; (case hd => rfl); (case hg => rfl); (case hr => first | (go_simp; done) | (go_simp; rfl))
              intro gb517 hg w30 hbox hb
              replace HO_0 := Aside0.mk (Kd.V_below (Kd.V_elderB (upV HO_0.out) gb517 (Nat.le_of_eq hg.symm)) hb)
              replace HO_511000 := Aside0.mk (Kd.V_below (Kd.V_elderB (upV HO_511000.out) gb517 (Nat.le_of_eq hg.symm)) hb)
              replace HO_512000 := Aside0.mk (Kd.V_below (Kd.V_elderB (upV HO_512000.out) gb517 (Nat.le_of_eq hg.symm)) hb)
              replace HO515 := Aside0.mk (Kd.V_below (Kd.V_elderB (upV HO515.out) gb517 (Nat.le_of_eq hg.symm)) hb)
              have BK517 := Aside0.mk (hbox)
              have GW517 := Aside0.mk ((by rw [hg]; exact (below_size (upB2 HB.out GE510.out GE511.out)) : w.heap.size ≤ gb517))
              have GE517 := Aside0.mk ((by rw [hg]; exact (below_size (upB2 HB.out GE510.out GE511.out)) : w.heap.size ≤ gb517))
              replace HB := Aside0.mk (below_step (upB2 HB.out GE510.out GE511.out) hb)
              have NB510_517 := Aside0.mk ((by rw [hg]; exact Nat.ne_of_lt (blk_lt (upK BK510.out)) : gb510 ≠ gb517))
              have NB517_510 := Aside0.mk ((by rw [hg]; exact Nat.ne_of_gt (blk_lt (upK BK510.out)) : gb517 ≠ gb510))
              replace BK510 := Aside0.mk (blk_below (upK BK510.out) hb)
              have NB511_517 := Aside0.mk ((by rw [hg]; exact Nat.ne_of_lt (blk_lt (upK BK511.out)) : gb511 ≠ gb517))
              have NB517_511 := Aside0.mk ((by rw [hg]; exact Nat.ne_of_gt (blk_lt (upK BK511.out)) : gb517 ≠ gb511))
              replace BK511 := Aside0.mk (blk_below (upK BK511.out) hb)
              clear hb hbox hg
              refine hK.out _ _ ⟨(blk_cell BK511.out 0).trans rfl, ((HB.out.cell (World.block_lt_of_cell? w _ hw512_0)).trans hw512_0)⟩ (fun hHeld => ?_)
              clear hK K
              refine nM 12 ?_
              exact norm_ (by first | (simp only [putAll, Act.put, List.setIfInBounds_toArray, List.set_cons_zero, List.set_cons_succ]; done) | simp only [IntKind.wrap_u8, IntKind.wrap_u16, IntKind.wrap_u32, putAll, Act.put, List.setIfInBounds_toArray, List.set_cons_zero, List.set_cons_succ]) (hCont (v514, gb517) _ ⟨hHeld, (by refine upV ?_; exact Kd.V_mono HO515.out (fun _ hk => ⟨hk.1.1, ⟨hk.1.2, hk.2⟩⟩)), (by refine upV ?_; exact Kd.V_mono HO_0.out (fun _ hk => ⟨hk.1.1, ⟨hk.1.2, hk.2⟩⟩)), (by refine upV ?_; exact Kd.V_mono HO_511000.out (fun _ hk => ⟨hk.1.1, ⟨hk.1.2, hk.2⟩⟩)), (by refine upV ?_; exact Kd.V_mono HO_512000.out (fun _ hk => ⟨hk.1.1, ⟨hk.1.2, hk.2⟩⟩)), (upK BK510.out), (upK BK511.out), (upK BK517.out), GW517.out, GE517.out, NB510_517.out, NB517_510.out, NB511_517.out, NB517_511.out, (upB3 HB.out GE510.out GE511.out GE517.out)⟩)
             ·skip
              refine box_step ?hg (N := 12) ?hd (cs := #[.slice none 0 0]) (t := 24) ?hr ?_; (case hd => rfl); (case hg => rfl); (case hr => first | (go_simp; done) | (go_simp; rfl))
              intro gb517 hg w29 hbox hb
              replace HO_0 := Aside0.mk (Kd.V_below (Kd.V_elderB (upV HO_0.out) gb517 (Nat.le_of_eq hg.symm)) hb)
              replace HO_511000 := Aside0.mk (Kd.V_below (Kd.V_elderB (upV HO_511000.out) gb517 (Nat.le_of_eq hg.symm)) hb)
              replace HO_512000 := Aside0.mk (Kd.V_below (Kd.V_elderB (upV HO_512000.out) gb517 (Nat.le_of_eq hg.symm)) hb)
              have BK517 := Aside0.mk (hbox)
              have GW517 := Aside0.mk ((by rw [hg]; exact (below_size (upB2 HB.out GE510.out GE511.out)) : w.heap.size ≤ gb517))
              have GE517 := Aside0.mk ((by rw [hg]; exact (below_size (upB2 HB.out GE510.out GE511.out)) : w.heap.size ≤ gb517))
              replace HB := Aside0.mk (below_step (upB2 HB.out GE510.out GE511.out) hb)
              have NB510_517 := Aside0.mk ((by rw [hg]; exact Nat.ne_of_lt (blk_lt (upK BK510.out)) : gb510 ≠ gb517))
              have NB517_510 := Aside0.mk ((by rw [hg]; exact Nat.ne_of_gt (blk_lt (upK BK510.out)) : gb517 ≠ gb510))
              replace BK510 := Aside0.mk (blk_below (upK BK510.out) hb)
              have NB511_517 := Aside0.mk ((by rw [hg]; exact Nat.ne_of_lt (blk_lt (upK BK511.out)) : gb511 ≠ gb517))
              have NB517_511 := Aside0.mk ((by rw [hg]; exact Nat.ne_of_gt (blk_lt (upK BK511.out)) : gb517 ≠ gb511))
              replace BK511 := Aside0.mk (blk_below (upK BK511.out) hb)
              clear hb hbox hg
              refine hK.out _ _ ⟨(blk_cell BK511.out 0).trans rfl, ((HB.out.cell (World.block_lt_of_cell? w _ hw512_0)).trans hw512_0)⟩ (fun hHeld => ?_)
              clear hK K
              refine nM 12 ?_
              refine oM 10 59 HT_.out (fun K hK => ?_)
              refine gM Try.func30 #[.agg #[.slice Ao27 x512000_1.length co27], .int .i64 (Int.tmod (wrap64 (rd l1 x11_1)) (t503.length : Int)), .int .u32 a2] ?_
              with_reducible refine (tree_Put.calls kj18 _ _ x512000_1 (Int.tmod (wrap64 (rd l1 x11_1)) (t503.length : Int)) a2 t513 t516 _ ?side1 ?side2 A25.out).mono ?_
              (case side1 => exact upC ((Kd.V_reads' HO_512000.out).2.2))
              (case side2 => exact (Kd.V_reads' HO_512000.out).2.1)
              rintro e w30 ⟨v514, rfl, ho0, hb⟩
              refine ⟨_, rfl, ?_⟩
              replace HO_0 := Aside0.mk (Kd.V_below (upV HO_0.out) hb)
              replace HO_511000 := Aside0.mk (Kd.V_below (upV HO_511000.out) hb)
              replace HO_512000 := Aside0.mk (Kd.V_below (upV HO_512000.out) hb)
              have HO515 := Aside0.mk (Kd.V_lower (Kd.V_mono (ok' := fun k_ => k_ ≠ gb510 ∧ k_ ≠ gb511 ∧ k_ ≠ gb517) ho0 (fun k_ hk_ => ⟨(Kd.freshB (upK BK510.out) k_ hk_), (Kd.freshB (upK BK511.out) k_ hk_), (Kd.freshB (upK BK517.out) k_ hk_)⟩)) (below_size (upB3 HB.out GE510.out GE511.out GE517.out)))
              replace BK510 := Aside0.mk (blk_below (upK BK510.out) hb)
              replace BK511 := Aside0.mk (blk_below (upK BK511.out) hb)
              replace BK517 := Aside0.mk (blk_below (upK BK517.out) hb)
              replace HB := Aside0.mk (below_step (upB3 HB.out GE510.out GE511.out GE517.out) hb)
              (try clear hb); (try clear hb2); (try clear hk); (try clear hi); (try clear ho0)
              refine hK.out _ _ ⟨(blk_cell BK511.out 0).trans rfl, ((HB.out.cell (World.block_lt_of_cell? w _ hw512_0)).trans hw512_0)⟩ (fun hHeld => ?_)
              clear hK K
              refine nM 59 ?_; refine pM 11 48 HT_.out ?_; refine pM 12 60 HT_.out ?_; refine pM 13 61 HT_.out ?_
              exact norm_ (by first | (simp only [putAll, Act.put, List.setIfInBounds_toArray, List.set_cons_zero, List.set_cons_succ]; done) | simp only [IntKind.wrap_u8, IntKind.wrap_u16, IntKind.wrap_u32, putAll, Act.put, List.setIfInBounds_toArray, List.set_cons_zero, List.set_cons_succ]) (hCont (v514, gb517) _ ⟨hHeld, (upV HO515.out), (by refine upV ?_; exact Kd.V_mono HO_0.out (fun _ hk => ⟨hk.1.1, ⟨hk.1.2, hk.2⟩⟩)), (by refine upV ?_; exact Kd.V_mono HO_511000.out (fun _ hk => ⟨hk.1.1, ⟨hk.1.2, hk.2⟩⟩)), (by refine upV ?_; exact Kd.V_mono HO_512000.out (fun _ hk => ⟨hk.1.1, ⟨hk.1.2, hk.2⟩⟩)), (upK BK510.out), (upK BK511.out), (upK BK517.out), GW517.out, GE517.out, NB510_517.out, NB517_510.out, NB511_517.out, NB517_511.out, (upB3 HB.out GE510.out GE511.out GE517.out)⟩)
            rintro ⟨v514, gb517⟩ w31 ⟨hS_, h0_, h1_, h2_, h3_, h4_, h5_, h6_, h7_, h8_, h9_, h10_, h11_, h12_, h13_⟩
            have n0_ : Aside0 (Kd.V (Kd.slice 25 (Kd.int .u32)) 40 w31 w.heap.size (fun k_ => k_ ≠ gb510 ∧ k_ ≠ gb511 ∧ k_ ≠ gb517) v514 t513) := ⟨h0_⟩
            have n1_ : Aside0 (Kd.V (Kd.int .u32) 25 w31 w.heap.size (fun k_ => k_ ≠ gb510 ∧ k_ ≠ gb511 ∧ k_ ≠ gb517) (.slice Ao11 t503.length co11) t503) := ⟨h1_⟩
            have n2_ : Aside0 (Kd.V (Kd.slice 25 (Kd.int .u32)) 40 w31 w.heap.size (fun k_ => k_ ≠ gb510 ∧ k_ ≠ gb511 ∧ k_ ≠ gb517) (.slice Ao14 t506.length co14) t506) := ⟨h2_⟩
            have n3_ : Aside0 (Kd.V (Kd.slice 25 (Kd.int .u32)) 40 w31 w.heap.size (fun k_ => k_ ≠ gb510 ∧ k_ ≠ gb511 ∧ k_ ≠ gb517) (.slice Ao27 x512000_1.length co27) x512000_1) := ⟨h3_⟩
            have n4_ : Aside0 (w31.heap[gb510]? = some (.cells #[.slice Ao14 t506.length co14] 24 (0, 0))) := ⟨h4_⟩
            have n5_ : Aside0 (w31.heap[gb511]? = some (.cells #[.slice Ao27 x512000_1.length co27] 24 (0, 0))) := ⟨h5_⟩
            have n6_ : Aside0 (w31.heap[gb517]? = some (.cells #[.slice none 0 0] 24 (0, 0))) := ⟨h6_⟩
            have n7_ : Aside0 (w.heap.size ≤ gb517) := ⟨h7_⟩
            have n8_ : Aside0 (w.heap.size ≤ gb517) := ⟨h8_⟩
            have n9_ : Aside0 (gb510 ≠ gb517) := ⟨h9_⟩
            have n10_ : Aside0 (gb517 ≠ gb510) := ⟨h10_⟩
            have n11_ : Aside0 (gb511 ≠ gb517) := ⟨h11_⟩
            have n12_ : Aside0 (gb517 ≠ gb511) := ⟨h12_⟩
            have n13_ : Aside0 (Below w.heap.size w w31) := ⟨h13_⟩
            clear HO_0
            clear HO_511000
            clear HO_512000
            clear BK510
            clear BK511
            clear HB
            clear h0_ h1_ h2_ h3_ h4_ h5_ h6_ h7_ h8_ h9_ h10_ h11_ h12_ h13_
            have HO515 := n0_
            have HO_0 := n1_
            have HO_511000 := n2_
            have HO_512000 := n3_
            have BK510 := n4_
            have BK511 := n5_
            have BK517 := n6_
            have GW517 := n7_
            have GE517 := n8_
            have NB510_517 := n9_
            have NB517_510 := n10_
            have NB511_517 := n11_
            have NB517_511 := n12_
            have HB := n13_
            clear n0_ n1_ n2_ n3_ n4_ n5_ n6_ n7_ n8_ n9_ n10_ n11_ n12_ n13_
            have hHeld : w31.cell? ⟨gb511, 0, none⟩ = some (.slice Ao27 x512000_1.length co27) ∧ w31.cell? (ad512.add (x11_1).toNat) = some (.int .u16 (rd l1 x11_1)) := hS_
            obtain ⟨Ao32, co32, eo32⟩ := Kd.V_slice HO515.out
            (first | subst eo32 | (injection eo32 with f1_ f2_ f3_; have f4_ := f1_.symm; have f5_ := f3_.symm; clear f1_ f2_ f3_; subst f4_; subst f5_))
            refine norm_ (a' := ?_) ?_ ?_
            rotate_left
            ·simp only [putAll, Act.put, List.setIfInBounds_toArray, List.set_cons_zero, List.set_cons_succ]
             rfl
            refine one_ (i := 15) (N := none) #[true, true, true, true, true, true, true, true, true, true, true, true, true, true, true, true, false] rfl rfl (one_of HT_.out (by kernel_rfl)) (by decide) (fun K hK => ?_)
            have hs33 : w31.cell? ⟨gb517, 0, none⟩ = some (.slice none 0 0) := (blk_cell BK517.out 0).trans rfl
            have hfs33 := blk_frozen BK517.out 0
            have hns33_0 := NB510_517.out
            have hns33_1 := NB511_517.out
            have hms33_0 := NB517_510.out
            have hms33_1 := NB517_511.out
            refine skip_ (w1 := ?_) (by rfl) rfl ?_ ?_
            rotate_left
            ·go_simp
             rfl
            refine hK.out _ _ ⟨((cell_far (p := ⟨gb517, _, none⟩) NB511_517.out _).trans (hHeld.1)), ((cell_far (p := ⟨gb517, _, none⟩) (by first | exact Nat.ne_of_lt (Nat.lt_of_lt_of_le (by have := World.block_lt_of_cell? _ _ hw512_0; first | rwa [add_block] at this | exact this) GW517.out) | (rw [add_block]; exact Nat.ne_of_lt (Nat.lt_of_lt_of_le (by have := World.block_lt_of_cell? _ _ hw512_0; first | rwa [add_block] at this | exact this) GW517.out)) | (show (Addr.add _ _).block ≠ _; rw [add_block]; exact Nat.ne_of_lt (Nat.lt_of_lt_of_le (by have := World.block_lt_of_cell? _ _ hw512_0; first | rwa [add_block] at this | exact this) GW517.out)) | (dsimp only; exact Nat.ne_of_lt (Nat.lt_of_lt_of_le (by have := World.block_lt_of_cell? _ _ hw512_0; first | rwa [add_block] at this | exact this) GW517.out))) _).trans (hHeld.2))⟩ (fun hHeld => ?_)
            clear hK K
            refine pM 16 13 HT_.out ?_
            refine done_ (done_of HT_.out (by kernel_rfl)) ?_
            have hnb34 := NB517_510.out
            have hnc34 := NB510_517.out
            have hnb35 := NB517_511.out
            have hnc35 := NB511_517.out
            obtain ⟨hcz36_0, hfz36_0⟩ := cells1 BK517.out
            have hnb37 := NB511_510.out
            have hnc37 := NB510_511.out
            obtain ⟨hcz38_0, hfz38_0⟩ := cells1 BK511.out
            try go_wp2
            go_roundg kj18
            case measure => have := HK1.out; have := HJ18.out; omega
            case rel => exact ⟨(wrap64 (x10_1 + 1)), (wrap64 (x11_1 + 1)), (t513), (.slice Ao32 t513.length co32), (by first | rfl | (simp; done) | (simp [*]; done)), (by first | rfl | (simp; done) | (simp [*]; done)), H', ⟨by have := HK1.out; have := HJ18.out; omega⟩, ⟨by refine upV ?_; exact Kd.V_mono (garV1 (g := gb511) (Kd.V_far (p := ⟨gb517, 0, none⟩) (Kd.V_mono (Kd.V_mono HO_0.out (fun k_ hk => (⟨hk, hk.2.2⟩ : _ ∧ k_ ≠ gb517))) (fun k_ hk => (⟨hk, hk.1.2.1⟩ : _ ∧ k_ ≠ gb511))) (fun _ hk => hk.1.2) (.slice Ao32 t513.length co32)) 0 (.slice Ao32 t513.length co32)) (fun _ hk => ⟨hk.1.1.1, hk.1.1.2.1⟩)⟩, ⟨by refine upV ?_; exact Kd.V_mono (garV1 (g := gb511) (Kd.V_far (p := ⟨gb517, 0, none⟩) (Kd.V_mono (Kd.V_mono HO_511000.out (fun k_ hk => (⟨hk, hk.2.2⟩ : _ ∧ k_ ≠ gb517))) (fun k_ hk => (⟨hk, hk.1.2.1⟩ : _ ∧ k_ ≠ gb511))) (fun _ hk => hk.1.2) (.slice Ao32 t513.length co32)) 0 (.slice Ao32 t513.length co32)) (fun _ hk => ⟨hk.1.1.1, hk.1.1.2.1⟩)⟩, ⟨by refine upV ?_; exact Kd.V_mono (garV1 (g := gb511) (Kd.V_far (p := ⟨gb517, 0, none⟩) (Kd.V_mono (Kd.V_mono HO515.out (fun k_ hk => (⟨hk, hk.2.2⟩ : _ ∧ k_ ≠ gb517))) (fun k_ hk => (⟨hk, hk.1.2.1⟩ : _ ∧ k_ ≠ gb511))) (fun _ hk => hk.1.2) (.slice Ao32 t513.length co32)) 0 (.slice Ao32 t513.length co32)) (fun _ hk => ⟨hk.1.1.1, hk.1.1.2.1⟩)⟩, ⟨by refine upK ?_; refine blk_far ?_ NB510_511.out _; refine upK ?_; refine blk_far ?_ NB510_517.out _; refine upK ?_; exact BK510.out⟩, ⟨by refine upK ?_; refine blk_put (cs := #[.slice Ao27 x512000_1.length co27]) ?_ 0 _ rfl; refine upK ?_; refine blk_far ?_ NB511_517.out _; refine upK ?_; exact BK511.out⟩, ⟨upB3 HB.out GE510.out GE511.out GE517.out⟩⟩
           ·rw [if_neg c26] at H
            exact absurd (H.trans (congrArg some hr_.out)) (by simp)
         ·rw [if_neg c23] at H
          exact absurd H (by simp)
        ·rw [if_neg c22] at H
         exact absurd H (by simp)
       ·replace c21 := Bool.eq_false_iff.mpr c21
        subst c21
        have H1 : ((tree_Diff.f kj18 t506 x512000_1).bind fun bt518 => (if bt518.2.2 = 0 then (if (t506.length : Int) = (x512000_1.length : Int) then (if 0 < (x512000_1.length : Int) then (if ((rd_L1 x512000_1 0).length : Int) = (t503.length : Int) then (if bt518.2.1 > (wrap64 (1 + (wrap64 ((wrap64 (4 * x10_1)) * (wrap64 ((t506.length : Int) - 1)))))) then (plinthlaw25_TreeFew.j2 kj18 t503 bt518.1 true x512000_1) else (plinthlaw25_TreeFew.j2 kj18 t503 bt518.1 (decide ((bt518.1.length : Int) > x10_1)) x512000_1)) else (plinthlaw25_TreeFew.j2 kj18 t503 bt518.1 true x512000_1)) else (none)) else (plinthlaw25_TreeFew.j2 kj18 t503 bt518.1 true x512000_1)) else (plinthlaw25_TreeFew.j2 kj18 t503 bt518.1 true x512000_1))) = some r := by rw [if_neg (show ¬ (false = true) by decide)] at H; exact H
        clear H
        have H := H1
        clear H1
        replace H := Option.bind_eq_some_iff.mp H
        obtain ⟨⟨t518, t521, t522⟩, A460, H⟩ := H
        replace H : (if t522 = 0 then (if (t506.length : Int) = (x512000_1.length : Int) then (if 0 < (x512000_1.length : Int) then (if ((rd_L1 x512000_1 0).length : Int) = (t503.length : Int) then (if t521 > (wrap64 (1 + (wrap64 ((wrap64 (4 * x10_1)) * (wrap64 ((t506.length : Int) - 1)))))) then (plinthlaw25_TreeFew.j2 kj18 t503 t518 true x512000_1) else (plinthlaw25_TreeFew.j2 kj18 t503 t518 (decide ((t518.length : Int) > x10_1)) x512000_1)) else (plinthlaw25_TreeFew.j2 kj18 t503 t518 true x512000_1)) else (none)) else (plinthlaw25_TreeFew.j2 kj18 t503 t518 true x512000_1)) else (plinthlaw25_TreeFew.j2 kj18 t503 t518 true x512000_1)) = some r := H
        have A46 := Aside0.mk A460
        clear A460
        have HC47 := Aside0.mk H
        clear H
        have hnb48 := NB510_511.out
        have hnc48 := NB511_510.out
        obtain ⟨hcz49_0, hfz49_0⟩ := cells1 BK510.out
        obtain ⟨hcz50_0, hfz50_0⟩ := cells1 BK511.out
        obtain ⟨Ao51, co51, eo51⟩ := Kd.V_slice HO_512000.out
        subst eo51
        go_upto_region 18 with (first | ((with_reducible refine gate_callee (f := 35) rfl ?_); refine goesL_ (some 70) rfl rfl Try.func35 (by kernel_rfl) rfl #[.agg #[.slice Ao14 t506.length co14], .agg #[.slice Ao51 x512000_1.length co51]] rfl argA ?_; (with_reducible refine (tree_Diff.calls kj18 _ _ t506 _ _ x512000_1 t518 t521 t522 _ ?side1 ?side2 ?side3 ?side4 A46.out).mono ?_); (case side1 => exact upC ((Kd.V_reads' HO_511000.out).2.2)); (case side2 => exact (Kd.V_reads' HO_511000.out).2.1); (case side3 => exact upC ((Kd.V_reads' HO_512000.out).2.2)); (case side4 => exact (Kd.V_reads' HO_512000.out).2.1); rintro e w52 ⟨v519, rfl, ho0, hb⟩; refine ⟨_, rfl, ?_⟩; replace HO_0 := Aside0.mk (Kd.V_elder' (upV HO_0.out) (Kd.R_base ho0) hb); replace HO_511000 := Aside0.mk (Kd.V_elder' (upV HO_511000.out) (Kd.R_base ho0) hb); replace HO_512000 := Aside0.mk (Kd.V_elder' (upV HO_512000.out) (Kd.R_base ho0) hb); have HO520 := Aside0.mk (Kd.R_lower ho0 (below_size (upB2 HB.out GE510.out GE511.out))); replace BK510 := Aside0.mk (blk_below (upK BK510.out) hb); replace BK511 := Aside0.mk (blk_below (upK BK511.out) hb); replace HB := Aside0.mk (below_step (upB2 HB.out GE510.out GE511.out) hb); (try clear hb); (try clear hb2); (try clear hk); (try clear hi); (try clear ho0)))
        (try simp only [Act.put, List.setIfInBounds_toArray, List.set_cons_zero, List.set_cons_succ])
        go_cut [112] (fun v112 wc => ∃ (kq : Nat) (x112_46 : Bool), v112 = .bool x112_46 ∧ Aside0 (plinthlaw25_TreeFew.j2 kq t503 t518 x112_46 x512000_1 = some r) ∧ Aside0 (kq ≤ kj18) ∧ Aside0 (Kd.V (Kd.int .u32) 25 wc w.heap.size (fun k_ => some k_ ≠ (v519 : Value).ownBlock ∧ k_ ≠ gb510 ∧ k_ ≠ gb511) (.slice Ao11 t503.length co11) t503) ∧ Aside0 (Kd.R (Kd.int .i64) 3 wc w.heap.size (fun _ => True) v519 t518) ∧ Aside0 (Kd.V (Kd.slice 25 (Kd.int .u32)) 40 wc w.heap.size (fun k_ => some k_ ≠ (v519 : Value).ownBlock ∧ k_ ≠ gb510 ∧ k_ ≠ gb511) (.slice Ao14 t506.length co14) t506) ∧ Aside0 (Kd.V (Kd.slice 25 (Kd.int .u32)) 40 wc w.heap.size (fun k_ => some k_ ≠ (v519 : Value).ownBlock ∧ k_ ≠ gb510 ∧ k_ ≠ gb511) (.slice Ao51 x512000_1.length co51) x512000_1) ∧ Aside0 (wc.heap[gb510]? = some (.cells #[(.slice Ao14 t506.length co14)] 24 (0, 0))) ∧ Aside0 (wc.heap[gb511]? = some (.cells #[(.slice Ao51 x512000_1.length co51)] 24 (0, 0))) ∧ Aside0 (Below w.heap.size w wc))
        case first =>
         have H := HC47.out
         clear HC47
         by_cases c53 : t522 = 0
         ·rw [if_pos c53] at H
          have c53b0 : (t522 == 0) = true := beq_iff_eq.mpr c53
          have c53b1 : (t522 != 0) = false := bne_eq_false_iff_eq.mpr c53
          clear c53
          (first | rw [c53b0] | (simp only [i64_w, i32_w]; rw [c53b0]) | skip)
          by_cases c54 : (t506.length : Int) = (x512000_1.length : Int)
          ·rw [if_pos c54] at H
           have c54b0 : ((t506.length : Int) == (x512000_1.length : Int)) = true := beq_iff_eq.mpr c54
           have c54b1 : ((t506.length : Int) != (x512000_1.length : Int)) = false := bne_eq_false_iff_eq.mpr c54
           have c54b2 : (t506.length == x512000_1.length) = true := by first | simpa using c54 | (simp at c54 ⊢; omega)
           clear c54
           by_cases c55 : 0 < (x512000_1.length : Int)
           ·rw [if_pos c55] at H
            have c55b0 : decide (0 < (x512000_1.length : Int)) = true := decide_eq_true c55
            have c55b1 : decide (0 < x512000_1.length) = true := decide_eq_true (by omega)
            clear c55
            by_cases c56 : ((rd_L1 x512000_1 0).length : Int) = (t503.length : Int)
            ·rw [if_pos c56] at H
             have c56b0 : (((rd_L1 x512000_1 0).length : Int) == (t503.length : Int)) = true := beq_iff_eq.mpr c56
             have c56b1 : (((rd_L1 x512000_1 0).length : Int) != (t503.length : Int)) = false := bne_eq_false_iff_eq.mpr c56
             have c56b2 : ((rd_L1 x512000_1 0).length == t503.length) = true := by first | simpa using c56 | (simp at c56 ⊢; omega)
             clear c56
             by_cases c57 : t521 > (wrap64 (1 + (wrap64 ((wrap64 (4 * x10_1)) * (wrap64 ((t506.length : Int) - 1))))))
             ·rw [if_pos c57] at H
              have c57b0 : decide ((wrap64 (1 + (wrap64 ((wrap64 (4 * x10_1)) * (wrap64 ((t506.length : Int) - 1)))))) < t521) = true := decide_eq_true c57
              clear c57
              have H' := Aside0.mk H
              clear H
              have hnb58 := NB510_511.out
              have hnc58 := NB511_510.out
              obtain ⟨hcz59_0, hfz59_0⟩ := cells1 BK510.out
              obtain ⟨hcz60_0, hfz60_0⟩ := cells1 BK511.out
              have p523 : 0 ≤ (0 : Int) := (by omega)
              have q523 : 0 < (x512000_1.length : Int) := of_decide_eq_true (by first | (with_reducible assumption) | assumption)
              obtain ⟨ad523, A523_0, c523_0, e523, hx523_0, hl523_0, hi523_0⟩ := at_L1 (Kd.V_reads' HO_512000.out).2.2 0 p523 q523
              cases e523
              obtain ⟨ce523, hce523, hMe523, hcc523⟩ := Kd.V_get HO_512000.out [] 0 p523 (by first | exact q523 | exact of_decide_eq_true (by first | (with_reducible assumption) | assumption) | (have e_ := (Kd.V_reads' HO_512000.out).1; omega))
              obtain ⟨ua523_0, uc523_0, rfl, ul523_0, ge523_0⟩ := Kd.FK_slice_open hMe523
              have hv523_0 := hcc523 0 _ rfl
              rw [Nat.add_zero, show ((Kd.slice 25 (Kd.int .u32))).sz = 1 from rfl, Nat.mul_one] at hv523_0
              replace hv523_0 := Option.some.inj (hv523_0.symm.trans hx523_0)
              injection hv523_0 with hva_ hvn_ hvc_
              rw [hva_] at ge523_0
              rw [hvc_] at ul523_0
              have HL523_0 := Aside0.mk (show Kd.V (Kd.int .u32) 25 _ w.heap.size _ _ (rd_L1 x512000_1 0) from Kd.V_mk ul523_0 ge523_0)
              clear hva_ hvn_ hvc_ ge523_0 ul523_0
              clear hcc523 hce523
              have qi523 : (0 < x512000_1.length) = True := eq_true (by omega)
              (try rw [show ((0 : Int)).toNat = 0 from rfl] at hx523_0)
              (try rw [Addr.add_zero'] at hx523_0)
              have HR523_0 := Aside0.mk hi523_0
              have HC523_0 := Aside0.mk hl523_0
              clear hi523_0 hl523_0
              replace p523 := eq_true p523
              replace q523 := eq_true q523
              go_wp2
              go_meet
              case rel => exact ⟨_, (true), (by first | rfl | (simp; done) | (simp [*]; done)), H', ⟨by have := HK1.out; have := HJ18.out; first | omega | exact Nat.le_refl _⟩, ⟨by refine upV ?_; exact Kd.V_mono HO_0.out (fun _ hk => ⟨hk.2, ⟨hk.1.1, hk.1.2⟩⟩)⟩, ⟨by refine upR ?_; exact HO520.out⟩, ⟨by refine upV ?_; exact Kd.V_mono HO_511000.out (fun _ hk => ⟨hk.2, ⟨hk.1.1, hk.1.2⟩⟩)⟩, ⟨by refine upV ?_; exact Kd.V_mono HO_512000.out (fun _ hk => ⟨hk.2, ⟨hk.1.1, hk.1.2⟩⟩)⟩, ⟨by refine upK ?_; exact BK510.out⟩, ⟨by refine upK ?_; exact BK511.out⟩, ⟨upB2 HB.out GE510.out GE511.out⟩⟩
             ·rw [if_neg c57] at H
              have c57b0 : decide ((wrap64 (1 + (wrap64 ((wrap64 (4 * x10_1)) * (wrap64 ((t506.length : Int) - 1)))))) < t521) = false := decide_eq_false c57
              clear c57
              have H' := Aside0.mk H
              clear H
              have hnb61 := NB510_511.out
              have hnc61 := NB511_510.out
              obtain ⟨hcz62_0, hfz62_0⟩ := cells1 BK510.out
              obtain ⟨hcz63_0, hfz63_0⟩ := cells1 BK511.out
              have p523 : 0 ≤ (0 : Int) := (by omega)
              have q523 : 0 < (x512000_1.length : Int) := of_decide_eq_true (by first | (with_reducible assumption) | assumption)
              obtain ⟨ad523, A523_0, c523_0, e523, hx523_0, hl523_0, hi523_0⟩ := at_L1 (Kd.V_reads' HO_512000.out).2.2 0 p523 q523
              cases e523
              obtain ⟨ce523, hce523, hMe523, hcc523⟩ := Kd.V_get HO_512000.out [] 0 p523 (by first | exact q523 | exact of_decide_eq_true (by first | (with_reducible assumption) | assumption) | (have e_ := (Kd.V_reads' HO_512000.out).1; omega))
              obtain ⟨ua523_0, uc523_0, rfl, ul523_0, ge523_0⟩ := Kd.FK_slice_open hMe523
              have hv523_0 := hcc523 0 _ rfl
              rw [Nat.add_zero, show ((Kd.slice 25 (Kd.int .u32))).sz = 1 from rfl, Nat.mul_one] at hv523_0
              replace hv523_0 := Option.some.inj (hv523_0.symm.trans hx523_0)
              injection hv523_0 with hva_ hvn_ hvc_
              rw [hva_] at ge523_0
              rw [hvc_] at ul523_0
              have HL523_0 := Aside0.mk (show Kd.V (Kd.int .u32) 25 _ w.heap.size _ _ (rd_L1 x512000_1 0) from Kd.V_mk ul523_0 ge523_0)
              clear hva_ hvn_ hvc_ ge523_0 ul523_0
              clear hcc523 hce523
              have qi523 : (0 < x512000_1.length) = True := eq_true (by omega)
              (try rw [show ((0 : Int)).toNat = 0 from rfl] at hx523_0)
              (try rw [Addr.add_zero'] at hx523_0)
              have HR523_0 := Aside0.mk hi523_0
              have HC523_0 := Aside0.mk hl523_0
              clear hi523_0 hl523_0
              replace p523 := eq_true p523
              replace q523 := eq_true q523
              obtain ⟨Ao64, co64, eo64⟩ := Kd.R_slice HO520.out
              subst eo64
              go_wp2
              go_meet
              case rel => exact ⟨_, (decide ((t518.length : Int) > x10_1)), (by first | rfl | (simp; done) | (simp [*]; done)), H', ⟨by have := HK1.out; have := HJ18.out; first | omega | exact Nat.le_refl _⟩, ⟨by refine upV ?_; exact Kd.V_mono HO_0.out (fun _ hk => ⟨hk.2, ⟨hk.1.1, hk.1.2⟩⟩)⟩, ⟨by refine upR ?_; exact HO520.out⟩, ⟨by refine upV ?_; exact Kd.V_mono HO_511000.out (fun _ hk => ⟨hk.2, ⟨hk.1.1, hk.1.2⟩⟩)⟩, ⟨by refine upV ?_; exact Kd.V_mono HO_512000.out (fun _ hk => ⟨hk.2, ⟨hk.1.1, hk.1.2⟩⟩)⟩, ⟨by refine upK ?_; exact BK510.out⟩, ⟨by refine upK ?_; exact BK511.out⟩, ⟨upB2 HB.out GE510.out GE511.out⟩⟩
            ·rw [if_neg c56] at H
             have c56b0 : (((rd_L1 x512000_1 0).length : Int) == (t503.length : Int)) = false := beq_eq_false_iff_ne.mpr c56
             have c56b1 : (((rd_L1 x512000_1 0).length : Int) != (t503.length : Int)) = true := bne_iff_ne.mpr c56
             have c56b2 : ((rd_L1 x512000_1 0).length == t503.length) = false := by first | simpa using c56 | (simp at c56 ⊢; omega)
             have H' := Aside0.mk H
             clear H
             have hnb65 := NB510_511.out
             have hnc65 := NB511_510.out
             obtain ⟨hcz66_0, hfz66_0⟩ := cells1 BK510.out
             obtain ⟨hcz67_0, hfz67_0⟩ := cells1 BK511.out
             have p523 : 0 ≤ (0 : Int) := (by omega)
             have q523 : 0 < (x512000_1.length : Int) := of_decide_eq_true (by first | (with_reducible assumption) | assumption)
             obtain ⟨ad523, A523_0, c523_0, e523, hx523_0, hl523_0, hi523_0⟩ := at_L1 (Kd.V_reads' HO_512000.out).2.2 0 p523 q523
             cases e523
             obtain ⟨ce523, hce523, hMe523, hcc523⟩ := Kd.V_get HO_512000.out [] 0 p523 (by first | exact q523 | exact of_decide_eq_true (by first | (with_reducible assumption) | assumption) | (have e_ := (Kd.V_reads' HO_512000.out).1; omega))
             obtain ⟨ua523_0, uc523_0, rfl, ul523_0, ge523_0⟩ := Kd.FK_slice_open hMe523
             have hv523_0 := hcc523 0 _ rfl
             rw [Nat.add_zero, show ((Kd.slice 25 (Kd.int .u32))).sz = 1 from rfl, Nat.mul_one] at hv523_0
             replace hv523_0 := Option.some.inj (hv523_0.symm.trans hx523_0)
             injection hv523_0 with hva_ hvn_ hvc_
             rw [hva_] at ge523_0
             rw [hvc_] at ul523_0
             have HL523_0 := Aside0.mk (show Kd.V (Kd.int .u32) 25 _ w.heap.size _ _ (rd_L1 x512000_1 0) from Kd.V_mk ul523_0 ge523_0)
             clear hva_ hvn_ hvc_ ge523_0 ul523_0
             clear hcc523 hce523
             have qi523 : (0 < x512000_1.length) = True := eq_true (by omega)
             (try rw [show ((0 : Int)).toNat = 0 from rfl] at hx523_0)
             (try rw [Addr.add_zero'] at hx523_0)
             have HR523_0 := Aside0.mk hi523_0
             have HC523_0 := Aside0.mk hl523_0
             clear hi523_0 hl523_0
             replace p523 := eq_true p523
             replace q523 := eq_true q523
             go_wp2
             go_meet
             case rel => exact ⟨_, (true), (by first | rfl | (simp; done) | (simp [*]; done)), H', ⟨by have := HK1.out; have := HJ18.out; first | omega | exact Nat.le_refl _⟩, ⟨by refine upV ?_; exact Kd.V_mono HO_0.out (fun _ hk => ⟨hk.2, ⟨hk.1.1, hk.1.2⟩⟩)⟩, ⟨by refine upR ?_; exact HO520.out⟩, ⟨by refine upV ?_; exact Kd.V_mono HO_511000.out (fun _ hk => ⟨hk.2, ⟨hk.1.1, hk.1.2⟩⟩)⟩, ⟨by refine upV ?_; exact Kd.V_mono HO_512000.out (fun _ hk => ⟨hk.2, ⟨hk.1.1, hk.1.2⟩⟩)⟩, ⟨by refine upK ?_; exact BK510.out⟩, ⟨by refine upK ?_; exact BK511.out⟩, ⟨upB2 HB.out GE510.out GE511.out⟩⟩
           ·rw [if_neg c55] at H
            exact absurd H (by simp)
          ·rw [if_neg c54] at H
           have c54b0 : ((t506.length : Int) == (x512000_1.length : Int)) = false := beq_eq_false_iff_ne.mpr c54
           have c54b1 : ((t506.length : Int) != (x512000_1.length : Int)) = true := bne_iff_ne.mpr c54
           have c54b2 : (t506.length == x512000_1.length) = false := by first | simpa using c54 | (simp at c54 ⊢; omega)
           have H' := Aside0.mk H
           clear H
           have hnb68 := NB510_511.out
           have hnc68 := NB511_510.out
           obtain ⟨hcz69_0, hfz69_0⟩ := cells1 BK510.out
           obtain ⟨hcz70_0, hfz70_0⟩ := cells1 BK511.out
           go_wp2
           go_meet
           case rel => exact ⟨_, (true), (by first | rfl | (simp; done) | (simp [*]; done)), H', ⟨by have := HK1.out; have := HJ18.out; first | omega | exact Nat.le_refl _⟩, ⟨by refine upV ?_; exact Kd.V_mono HO_0.out (fun _ hk => ⟨hk.2, ⟨hk.1.1, hk.1.2⟩⟩)⟩, ⟨by refine upR ?_; exact HO520.out⟩, ⟨by refine upV ?_; exact Kd.V_mono HO_511000.out (fun _ hk => ⟨hk.2, ⟨hk.1.1, hk.1.2⟩⟩)⟩, ⟨by refine upV ?_; exact Kd.V_mono HO_512000.out (fun _ hk => ⟨hk.2, ⟨hk.1.1, hk.1.2⟩⟩)⟩, ⟨by refine upK ?_; exact BK510.out⟩, ⟨by refine upK ?_; exact BK511.out⟩, ⟨upB2 HB.out GE510.out GE511.out⟩⟩
         ·rw [if_neg c53] at H
          have c53b0 : (t522 == 0) = false := beq_eq_false_iff_ne.mpr c53
          have c53b1 : (t522 != 0) = true := bne_iff_ne.mpr c53
          (first | rw [c53b0] | (simp only [i64_w, i32_w]; rw [c53b0]) | skip)
          have H' := Aside0.mk H
          clear H
          go_wp2
          go_meet
          case rel => exact ⟨_, (true), (by first | rfl | (simp; done) | (simp [*]; done)), H', ⟨by have := HK1.out; have := HJ18.out; first | omega | exact Nat.le_refl _⟩, ⟨by refine upV ?_; exact Kd.V_mono HO_0.out (fun _ hk => ⟨hk.2, ⟨hk.1.1, hk.1.2⟩⟩)⟩, ⟨by refine upR ?_; exact HO520.out⟩, ⟨by refine upV ?_; exact Kd.V_mono HO_511000.out (fun _ hk => ⟨hk.2, ⟨hk.1.1, hk.1.2⟩⟩)⟩, ⟨by refine upV ?_; exact Kd.V_mono HO_512000.out (fun _ hk => ⟨hk.2, ⟨hk.1.1, hk.1.2⟩⟩)⟩, ⟨by refine upK ?_; exact BK510.out⟩, ⟨by refine upK ?_; exact BK511.out⟩, ⟨upB2 HB.out GE510.out GE511.out⟩⟩
        case rest =>
         clear HC47
         (try clear c2); (try clear p2); (try clear c3); (try clear c4); (try clear c5); (try clear p5); (try clear q5); (try clear hx5); (try clear qi5); (try clear c6); (try clear p6); (try clear c21); (try clear c22); (try clear c23); (try clear c30); (try clear c35); (try clear c48); (try clear p51); (try clear q51); (try clear hx51); (try clear c52); (try clear p52); (try clear q52); (try clear hx52); (try clear qi52); (try clear c53); (try clear c53b0); (try clear c53b1); (try clear c54); (try clear c54b0); (try clear c54b1); (try clear c54b2); (try clear c55); (try clear c55b0); (try clear c55b1); (try clear c56); (try clear c56b0); (try clear c56b1); (try clear c56b2); (try clear c57); (try clear c57b0); (try clear c58); (try clear c61); (try clear p64); (try clear c65); (try clear c68); (try clear hcz49_0); (try clear hcz50_0); (try clear hcz59_0); (try clear hcz60_0); (try clear hcz62_0); (try clear hcz63_0); (try clear hcz66_0); (try clear hcz67_0); (try clear hcz69_0); (try clear hcz70_0); (try clear hfz49_0); (try clear hfz50_0); (try clear hfz59_0); (try clear hfz60_0); (try clear hfz62_0); (try clear hfz63_0); (try clear hfz66_0); (try clear hfz67_0); (try clear hfz69_0); (try clear hfz70_0); (try clear hx512_0); (try clear hx523_0); (try clear p512); (try clear p523); (try clear q512); (try clear q523)
         obtain ⟨kq, x112_46, rfl, HA, HJ46, HO_0, HO_14, HO_511000, HO_512000, BK510, BK511, HB⟩ := hcut
         cases kq with
         | zero => exact absurd HA.out (by simp [plinthlaw25_TreeFew.j2])
         | succ kj46 =>
          have H := HA.out
          clear HA
          simp only [plinthlaw25_TreeFew.j2] at H
          by_cases c71 : x112_46 = true
          ·subst c71
           have H1 : (some false) = some r := by rw [if_pos rfl] at H; exact H
           clear H
           have H := H1
           clear H1
           obtain rfl := Option.some.inj H
           go_wp2
           go_ret
           exact ⟨by first | rfl | (simp [errW_none, errW_some] <;> rfl) | (simp [*, errW_none, errW_some] <;> rfl), upB2 HB.out GE510.out GE511.out⟩
          ·replace c71 := Bool.eq_false_iff.mpr c71
           subst c71
           have H1 : (plinthlaw25_TreeFew.l1 kj46 t503 t518 0 x512000_1) = some r := by rw [if_neg (show ¬ (false = true) by decide)] at H; exact H
           clear H
           have H := H1
           clear H1
           have H' := Aside0.mk H
           clear H
           go_wp2
           go_loopg [17] kj46 (fun kq v17 w' => ∃ (x17_4 : Int), v17 = .int .i64 x17_4 ∧ Aside0 (plinthlaw25_TreeFew.l1 kq t503 t518 x17_4 x512000_1 = some r) ∧ Aside0 (kq ≤ kj46) ∧ Aside0 (Kd.V (Kd.int .u32) 25 w' w.heap.size (fun k_ => some k_ ≠ (v519 : Value).ownBlock ∧ k_ ≠ gb510 ∧ k_ ≠ gb511) (.slice Ao11 t503.length co11) t503) ∧ Aside0 (Kd.R (Kd.int .i64) 3 w' w.heap.size (fun _ => True) v519 t518) ∧ Aside0 (Kd.V (Kd.slice 25 (Kd.int .u32)) 40 w' w.heap.size (fun k_ => some k_ ≠ (v519 : Value).ownBlock ∧ k_ ≠ gb510 ∧ k_ ≠ gb511) (.slice Ao14 t506.length co14) t506) ∧ Aside0 (Kd.V (Kd.slice 25 (Kd.int .u32)) 40 w' w.heap.size (fun k_ => some k_ ≠ (v519 : Value).ownBlock ∧ k_ ≠ gb510 ∧ k_ ≠ gb511) (.slice Ao51 x512000_1.length co51) x512000_1) ∧ Aside0 (w'.heap[gb510]? = some (.cells #[(.slice Ao14 t506.length co14)] 24 (0, 0))) ∧ Aside0 (w'.heap[gb511]? = some (.cells #[(.slice Ao51 x512000_1.length co51)] 24 (0, 0))) ∧ Aside0 (Below w.heap.size w w'))
           case atStart => exact ⟨(0), (by first | rfl | (simp; done) | (simp [*]; done)), H', ⟨Nat.le_refl _⟩, ⟨by refine upV ?_; exact HO_0.out⟩, ⟨by refine upR ?_; exact HO_14.out⟩, ⟨by refine upV ?_; exact HO_511000.out⟩, ⟨by refine upV ?_; exact HO_512000.out⟩, ⟨by refine upK ?_; exact BK510.out⟩, ⟨by refine upK ?_; exact BK511.out⟩, ⟨upB2 HB.out GE510.out GE511.out⟩⟩
           case round =>
            clear H'
            (try clear c2); (try clear p2); (try clear c3); (try clear c4); (try clear c5); (try clear p5); (try clear q5); (try clear hx5); (try clear qi5); (try clear c6); (try clear p6); (try clear c7); (try clear c21); (try clear c22); (try clear c23); (try clear c30); (try clear c35); (try clear c48); (try clear p51); (try clear q51); (try clear hx51); (try clear c52); (try clear p52); (try clear q52); (try clear hx52); (try clear qi52); (try clear c53); (try clear c53b0); (try clear c53b1); (try clear c54); (try clear c54b0); (try clear c54b1); (try clear c54b2); (try clear c55); (try clear c55b0); (try clear c55b1); (try clear c56); (try clear c56b0); (try clear c56b1); (try clear c56b2); (try clear c57); (try clear c57b0); (try clear c58); (try clear c61); (try clear p64); (try clear c65); (try clear c68); (try clear c71); (try clear hcz49_0); (try clear hcz50_0); (try clear hcz59_0); (try clear hcz60_0); (try clear hcz62_0); (try clear hcz63_0); (try clear hcz66_0); (try clear hcz67_0); (try clear hcz69_0); (try clear hcz70_0); (try clear hfz49_0); (try clear hfz50_0); (try clear hfz59_0); (try clear hfz60_0); (try clear hfz62_0); (try clear hfz63_0); (try clear hfz66_0); (try clear hfz67_0); (try clear hfz69_0); (try clear hfz70_0); (try clear hx512_0); (try clear hx523_0); (try clear p2); (try clear p5); (try clear p51); (try clear p512); (try clear p52); (try clear p523); (try clear p6); (try clear p64); (try clear q5); (try clear q51); (try clear q512); (try clear q52); (try clear q523)
            obtain ⟨x17_4, rfl, HA, HK4, HO_0, HO_14, HO_511000, HO_512000, BK510, BK511, HB⟩ := hrel
            cases gk with
            | zero => exact absurd HA.out (by simp [plinthlaw25_TreeFew.l1])
            | succ k4 =>
             have H := HA.out
             clear HA
             simp only [plinthlaw25_TreeFew.l1] at H
             by_cases c72 : x17_4 < (t518.length : Int)
             ·rw [if_pos c72] at H
              have c72b0 : decide (x17_4 < (t518.length : Int)) = true := decide_eq_true c72
              clear c72
              by_cases c73 : 0 ≤ x17_4
              ·rw [if_pos c73] at H
               have c73b0 : decide (0 ≤ x17_4) = true := decide_eq_true c73
               clear c73
               by_cases c74 : (rd t518 x17_4) < 0
               ·rw [if_pos c74] at H
                have c74b0 : decide ((rd t518 x17_4) < 0) = true := decide_eq_true c74
                clear c74
                obtain rfl := Option.some.inj H
                obtain ⟨Ao75, co75, eo75⟩ := Kd.R_slice HO_14.out
                subst eo75
                try go_wp2
                replace HO_0 := Aside0.mk (Kd.V_drew HO_0.out)
                replace HO_14 := Aside0.mk (Kd.R_drew HO_14.out)
                replace HO_511000 := Aside0.mk (Kd.V_drew HO_511000.out)
                replace HO_512000 := Aside0.mk (Kd.V_drew HO_512000.out)
                replace BK510 := Aside0.mk (blk_drew BK510.out)
                replace BK511 := Aside0.mk (blk_drew BK511.out)
                replace HB := Aside0.mk (below_drew1 HB.out)
                have p524 : 0 ≤ (x17_4 : Int) := of_decide_eq_true (by first | (with_reducible assumption) | assumption)
                have q524 : x17_4 < (t518.length : Int) := of_decide_eq_true (by first | (with_reducible assumption) | assumption)
                obtain ⟨ad524, e524, hx524_0⟩ := Kd.at_int (Kd.R_reads' HO_14.out).2.2 x17_4 p524 q524
                cases e524
                replace p524 := eq_true p524
                replace q524 := eq_true q524
                refine start_ (n := 34) (S := fun w' => w'.cell? (ad524.add (x17_4).toNat) = some (.int .i64 (rd t518 x17_4))) (ds := []) (Array.replicate 34 false) (by kernel_rfl) rfl rfl (hx524_0) (fun hHeld => ?_); refine with_tabW plinthlaw25_TreeFew.tab23 plinthlaw25_TreeFew.bits23 (fun HT_ HW_ => ?_)
                generalize wr.drew = w76 at HO_0 HO_14 HO_511000 HO_512000 BK510 BK511 HB hx524_0 hHeld ⊢
                refine pM 0 119 HT_.out ?_; refine pM 1 120 HT_.out ?_; refine pM 2 121 HT_.out ?_
                refine take_ (i := 3) (N := some 122) (v := ?_) (a' := ?_) #[true, true, true, true, false, false, false, false, false, false, false, false, false, false, false, false, false, false, false, false, false, false, false, false, false, false, false, false, false, false, false, false, false, false] rfl rfl (take_ofW HT_.out HW_.out (by kernel_rfl)) (fun _ _ _ h => h) (Or.inl ⟨by rfl, ?_⟩) hHeld ?_ ?_
                rotate_left
                ·intro w' s0
                 go_simp
                 with_reducible rfl
                rotate_left
                ·simp only [Act.put, List.setIfInBounds_toArray, List.set_cons_zero, List.set_cons_succ, i64_w, i32_w]
                 rfl
                refine pM 4 123 HT_.out ?_; refine pM 5 124 HT_.out ?_; refine uM 6 125 HT_.out ?_; refine uM 7 126 HT_.out ?_; refine uM 8 127 HT_.out ?_; refine uM 9 128 HT_.out ?_; refine uM 10 129 HT_.out ?_; refine uM 11 130 HT_.out ?_; refine uM 12 131 HT_.out ?_; refine pM 13 132 HT_.out ?_; refine pM 14 133 HT_.out ?_; refine uM 15 134 HT_.out ?_; refine uM 16 135 HT_.out ?_; refine uM 17 136 HT_.out ?_; refine uM 18 137 HT_.out ?_; refine uM 19 138 HT_.out ?_; refine uM 20 139 HT_.out ?_; refine uM 21 140 HT_.out ?_; refine uM 22 141 HT_.out ?_; refine uM 23 142 HT_.out ?_; refine uM 24 143 HT_.out ?_; refine uM 25 144 HT_.out ?_; refine uM 26 145 HT_.out ?_; refine uM 27 146 HT_.out ?_; refine uM 28 147 HT_.out ?_; refine uM 29 148 HT_.out ?_; refine uM 30 149 HT_.out ?_; refine uM 31 150 HT_.out ?_; refine uM 32 151 HT_.out ?_; refine pM 33 152 HT_.out ?_
                refine done_ (done_of HT_.out (by kernel_rfl)) ?_
                try go_wp2
                go_ret
                exact ⟨by first | rfl | (simp [errW_none, errW_some] <;> rfl) | (simp [*, errW_none, errW_some] <;> rfl), upB2 HB.out GE510.out GE511.out⟩
               ·rw [if_neg c74] at H
                have c74b0 : decide ((rd t518 x17_4) < 0) = false := decide_eq_false c74
                clear c74
                by_cases c77 : (rd t518 x17_4) ≥ (t503.length : Int)
                ·rw [if_pos c77] at H
                 have c77b0 : decide ((t503.length : Int) ≤ (rd t518 x17_4)) = true := decide_eq_true c77
                 clear c77
                 obtain rfl := Option.some.inj H
                 obtain ⟨Ao78, co78, eo78⟩ := Kd.R_slice HO_14.out
                 subst eo78
                 try go_wp2
                 replace HO_0 := Aside0.mk (Kd.V_drew HO_0.out)
                 replace HO_14 := Aside0.mk (Kd.R_drew HO_14.out)
                 replace HO_511000 := Aside0.mk (Kd.V_drew HO_511000.out)
                 replace HO_512000 := Aside0.mk (Kd.V_drew HO_512000.out)
                 replace BK510 := Aside0.mk (blk_drew BK510.out)
                 replace BK511 := Aside0.mk (blk_drew BK511.out)
                 replace HB := Aside0.mk (below_drew1 HB.out)
                 have p524 : 0 ≤ (x17_4 : Int) := of_decide_eq_true (by first | (with_reducible assumption) | assumption)
                 have q524 : x17_4 < (t518.length : Int) := of_decide_eq_true (by first | (with_reducible assumption) | assumption)
                 obtain ⟨ad524, e524, hx524_0⟩ := Kd.at_int (Kd.R_reads' HO_14.out).2.2 x17_4 p524 q524
                 cases e524
                 replace p524 := eq_true p524
                 replace q524 := eq_true q524
                 have p525 : 0 ≤ (x17_4 : Int) := of_decide_eq_true (by first | (with_reducible assumption) | assumption)
                 have q525 : x17_4 < (t518.length : Int) := of_decide_eq_true (by first | (with_reducible assumption) | assumption)
                 obtain ⟨ad525, e525, hx525_0⟩ := Kd.at_int (Kd.R_reads' HO_14.out).2.2 x17_4 p525 q525
                 obtain rfl : ad524 = ad525 := (by injection e525)
                 replace p525 := eq_true p525
                 replace q525 := eq_true q525
                 refine start_ (n := 34) (S := fun w' => w'.cell? (ad524.add (x17_4).toNat) = some (.int .i64 (rd t518 x17_4)) ∧ w'.cell? (ad524.add (x17_4).toNat) = some (.int .i64 (rd t518 x17_4))) (ds := []) (Array.replicate 34 false) (by kernel_rfl) rfl rfl ⟨hx524_0, hx525_0⟩ (fun hHeld => ?_); refine with_tabW plinthlaw25_TreeFew.tab23 plinthlaw25_TreeFew.bits23 (fun HT_ HW_ => ?_)
                 generalize wr.drew = w79 at HO_0 HO_14 HO_511000 HO_512000 BK510 BK511 HB hx524_0 hx525_0 hHeld ⊢
                 refine pM 0 119 HT_.out ?_; refine pM 1 120 HT_.out ?_; refine pM 2 121 HT_.out ?_; refine tM 3 122 HT_.out HW_.out hHeld ?_; refine pM 4 123 HT_.out ?_; refine pM 5 124 HT_.out ?_; refine pM 6 125 HT_.out ?_; refine pM 7 126 HT_.out ?_; refine pM 8 127 HT_.out ?_; refine pM 10 129 HT_.out ?_; refine pM 11 130 HT_.out ?_; refine tM 9 128 HT_.out HW_.out hHeld ?_; refine pM 12 131 HT_.out ?_; refine pM 13 132 HT_.out ?_; refine pM 14 133 HT_.out ?_; refine uM 15 134 HT_.out ?_; refine uM 16 135 HT_.out ?_; refine uM 17 136 HT_.out ?_; refine uM 18 137 HT_.out ?_; refine uM 19 138 HT_.out ?_; refine uM 20 139 HT_.out ?_; refine uM 21 140 HT_.out ?_; refine uM 22 141 HT_.out ?_; refine uM 23 142 HT_.out ?_; refine uM 24 143 HT_.out ?_; refine uM 25 144 HT_.out ?_; refine uM 26 145 HT_.out ?_; refine uM 27 146 HT_.out ?_; refine uM 28 147 HT_.out ?_; refine uM 29 148 HT_.out ?_; refine uM 30 149 HT_.out ?_; refine uM 31 150 HT_.out ?_; refine uM 32 151 HT_.out ?_; refine pM 33 152 HT_.out ?_
                 refine done_ (done_of HT_.out (by kernel_rfl)) ?_
                 try go_wp2
                 go_ret
                 exact ⟨by first | rfl | (simp [errW_none, errW_some] <;> rfl) | (simp [*, errW_none, errW_some] <;> rfl), upB2 HB.out GE510.out GE511.out⟩
                ·rw [if_neg c77] at H
                 have c77b0 : decide ((t503.length : Int) ≤ (rd t518 x17_4)) = false := decide_eq_false c77
                 clear c77
                 by_cases c80 : 0 < (x512000_1.length : Int)
                 ·rw [if_pos c80] at H
                  have c80b0 : decide (0 < (x512000_1.length : Int)) = true := decide_eq_true c80
                  have c80b1 : decide (0 < x512000_1.length) = true := decide_eq_true (by omega)
                  clear c80
                  by_cases c81 : 0 ≤ (rd t518 x17_4)
                  ·rw [if_pos c81] at H
                   have c81b0 : decide (0 ≤ (rd t518 x17_4)) = true := decide_eq_true c81
                   clear c81
                   by_cases c82 : (rd t518 x17_4) < ((rd_L1 x512000_1 0).length : Int)
                   ·rw [if_pos c82] at H
                    have c82b0 : decide ((rd t518 x17_4) < ((rd_L1 x512000_1 0).length : Int)) = true := decide_eq_true c82
                    clear c82
                    by_cases c83 : (rd t518 x17_4) < (t503.length : Int)
                    ·rw [if_pos c83] at H
                     have c83b0 : decide ((rd t518 x17_4) < (t503.length : Int)) = true := decide_eq_true c83
                     clear c83
                     by_cases c84 : (rd (rd_L1 x512000_1 0) (rd t518 x17_4)) = (rd t503 (rd t518 x17_4))
                     ·rw [if_pos c84] at H
                      have c84b0 : ((rd (rd_L1 x512000_1 0) (rd t518 x17_4)) == (rd t503 (rd t518 x17_4))) = true := beq_iff_eq.mpr c84
                      have c84b1 : ((rd (rd_L1 x512000_1 0) (rd t518 x17_4)) != (rd t503 (rd t518 x17_4))) = false := bne_eq_false_iff_eq.mpr c84
                      clear c84
                      obtain rfl := Option.some.inj H
                      obtain ⟨Ao85, co85, eo85⟩ := Kd.R_slice HO_14.out
                      subst eo85
                      try go_wp2
                      replace HO_0 := Aside0.mk (Kd.V_drew HO_0.out)
                      replace HO_14 := Aside0.mk (Kd.R_drew HO_14.out)
                      replace HO_511000 := Aside0.mk (Kd.V_drew HO_511000.out)
                      replace HO_512000 := Aside0.mk (Kd.V_drew HO_512000.out)
                      replace BK510 := Aside0.mk (blk_drew BK510.out)
                      replace BK511 := Aside0.mk (blk_drew BK511.out)
                      replace HB := Aside0.mk (below_drew1 HB.out)
                      have p524 : 0 ≤ (x17_4 : Int) := of_decide_eq_true (by first | (with_reducible assumption) | assumption)
                      have q524 : x17_4 < (t518.length : Int) := of_decide_eq_true (by first | (with_reducible assumption) | assumption)
                      obtain ⟨ad524, e524, hx524_0⟩ := Kd.at_int (Kd.R_reads' HO_14.out).2.2 x17_4 p524 q524
                      cases e524
                      replace p524 := eq_true p524
                      replace q524 := eq_true q524
                      have p525 : 0 ≤ (x17_4 : Int) := of_decide_eq_true (by first | (with_reducible assumption) | assumption)
                      have q525 : x17_4 < (t518.length : Int) := of_decide_eq_true (by first | (with_reducible assumption) | assumption)
                      obtain ⟨ad525, e525, hx525_0⟩ := Kd.at_int (Kd.R_reads' HO_14.out).2.2 x17_4 p525 q525
                      obtain rfl : ad524 = ad525 := (by injection e525)
                      replace p525 := eq_true p525
                      replace q525 := eq_true q525
                      have p526 : 0 ≤ (0 : Int) := (by omega)
                      have q526 : 0 < (x512000_1.length : Int) := of_decide_eq_true (by first | (with_reducible assumption) | assumption)
                      obtain ⟨ad526, A526_0, c526_0, e526, hx526_0, hl526_0, hi526_0⟩ := at_L1 (Kd.V_reads' HO_512000.out).2.2 0 p526 q526
                      cases e526
                      obtain ⟨ce526, hce526, hMe526, hcc526⟩ := Kd.V_get HO_512000.out [] 0 p526 (by first | exact q526 | exact of_decide_eq_true (by first | (with_reducible assumption) | assumption) | (have e_ := (Kd.V_reads' HO_512000.out).1; omega))
                      obtain ⟨ua526_0, uc526_0, rfl, ul526_0, ge526_0⟩ := Kd.FK_slice_open hMe526
                      have hv526_0 := hcc526 0 _ rfl
                      rw [Nat.add_zero, show ((Kd.slice 25 (Kd.int .u32))).sz = 1 from rfl, Nat.mul_one] at hv526_0
                      replace hv526_0 := Option.some.inj (hv526_0.symm.trans hx526_0)
                      injection hv526_0 with hva_ hvn_ hvc_
                      rw [hva_] at ge526_0
                      rw [hvc_] at ul526_0
                      have HL526_0 := Aside0.mk (show Kd.V (Kd.int .u32) 25 _ w.heap.size _ _ (rd_L1 x512000_1 0) from Kd.V_mk ul526_0 ge526_0)
                      clear hva_ hvn_ hvc_ ge526_0 ul526_0
                      clear hcc526 hce526
                      have qi526 : (0 < x512000_1.length) = True := eq_true (by omega)
                      (try rw [show ((0 : Int)).toNat = 0 from rfl] at hx526_0)
                      (try rw [Addr.add_zero'] at hx526_0)
                      have HR526_0 := Aside0.mk hi526_0
                      have HC526_0 := Aside0.mk hl526_0
                      clear hi526_0 hl526_0
                      replace p526 := eq_true p526
                      replace q526 := eq_true q526
                      have p527 : 0 ≤ (x17_4 : Int) := of_decide_eq_true (by first | (with_reducible assumption) | assumption)
                      have q527 : x17_4 < (t518.length : Int) := of_decide_eq_true (by first | (with_reducible assumption) | assumption)
                      obtain ⟨ad527, e527, hx527_0⟩ := Kd.at_int (Kd.R_reads' HO_14.out).2.2 x17_4 p527 q527
                      obtain rfl : ad524 = ad527 := (by injection e527)
                      replace p527 := eq_true p527
                      replace q527 := eq_true q527
                      have p528 : 0 ≤ ((rd t518 x17_4) : Int) := of_decide_eq_true (by first | (with_reducible assumption) | assumption)
                      have q528 : (rd t518 x17_4) < ((rd_L1 x512000_1 0).length : Int) := of_decide_eq_true (by first | (with_reducible assumption) | assumption)
                      obtain ⟨ad528, e528, hx528_0⟩ := Kd.at_int (by repeat (first | (with_reducible exact HR526_0.out) | (with_reducible refine Kd.C_alloc ?_ _) | (with_reducible refine Kd.C_drewN ?_ _) | (with_reducible refine Kd.C_drew ?_) | exact HR526_0.out)) (rd t518 x17_4) p528 q528
                      cases e528
                      replace p528 := eq_true p528
                      replace q528 := eq_true q528
                      have p529 : 0 ≤ (x17_4 : Int) := of_decide_eq_true (by first | (with_reducible assumption) | assumption)
                      have q529 : x17_4 < (t518.length : Int) := of_decide_eq_true (by first | (with_reducible assumption) | assumption)
                      obtain ⟨ad529, e529, hx529_0⟩ := Kd.at_int (Kd.R_reads' HO_14.out).2.2 x17_4 p529 q529
                      obtain rfl : ad524 = ad529 := (by injection e529)
                      replace p529 := eq_true p529
                      replace q529 := eq_true q529
                      have p530 : 0 ≤ ((rd t518 x17_4) : Int) := of_decide_eq_true (by first | (with_reducible assumption) | assumption)
                      have q530 : (rd t518 x17_4) < (t503.length : Int) := of_decide_eq_true (by first | (with_reducible assumption) | assumption)
                      obtain ⟨ad530, e530, hx530_0⟩ := Kd.at_int (Kd.V_reads' HO_0.out).2.2 (rd t518 x17_4) p530 q530
                      cases e530
                      replace p530 := eq_true p530
                      replace q530 := eq_true q530
                      refine start_ (n := 34) (S := fun w' => w'.cell? ⟨gb511, 0, none⟩ = some (.slice (some ad526) x512000_1.length co51) ∧ w'.cell? (ad524.add (x17_4).toNat) = some (.int .i64 (rd t518 x17_4)) ∧ w'.cell? (ad524.add (x17_4).toNat) = some (.int .i64 (rd t518 x17_4)) ∧ w'.cell? ad526 = some (.slice (some ad528) (rd_L1 x512000_1 0).length c526_0) ∧ w'.cell? (ad524.add (x17_4).toNat) = some (.int .i64 (rd t518 x17_4)) ∧ w'.cell? (ad528.add ((rd t518 x17_4)).toNat) = some (.int .u32 (rd (rd_L1 x512000_1 0) (rd t518 x17_4))) ∧ w'.cell? (ad524.add (x17_4).toNat) = some (.int .i64 (rd t518 x17_4)) ∧ w'.cell? (ad530.add ((rd t518 x17_4)).toNat) = some (.int .u32 (rd t503 (rd t518 x17_4)))) (ds := []) (Array.replicate 34 false) (by kernel_rfl) rfl rfl ⟨(blk_cell BK511.out 0).trans rfl, hx524_0, hx525_0, hx526_0, hx527_0, hx528_0, hx529_0, hx530_0⟩ (fun hHeld => ?_); refine with_tabW plinthlaw25_TreeFew.tab23 plinthlaw25_TreeFew.bits23 (fun HT_ HW_ => ?_)
                      generalize wr.drew = w86 at HO_0 HO_14 HO_511000 HO_512000 BK510 BK511 HB HL526_0 HR526_0 hx524_0 hx525_0 hx526_0 hx527_0 hx528_0 hx529_0 hx530_0 hHeld ⊢
                      refine pM 0 119 HT_.out ?_; refine pM 1 120 HT_.out ?_; refine pM 2 121 HT_.out ?_; refine tM 3 122 HT_.out HW_.out hHeld ?_; refine pM 4 123 HT_.out ?_; refine pM 5 124 HT_.out ?_; refine pM 6 125 HT_.out ?_; refine pM 7 126 HT_.out ?_; refine pM 8 127 HT_.out ?_; refine pM 10 129 HT_.out ?_; refine pM 11 130 HT_.out ?_; refine tM 9 128 HT_.out HW_.out hHeld ?_; refine pM 12 131 HT_.out ?_; refine pM 13 132 HT_.out ?_; refine pM 14 133 HT_.out ?_; refine pM 15 134 HT_.out ?_; refine pM 19 138 HT_.out ?_; refine pM 20 139 HT_.out ?_; refine pM 21 140 HT_.out ?_; refine pM 25 144 HT_.out ?_; refine pM 26 145 HT_.out ?_; refine pM 27 146 HT_.out ?_; refine pM 28 147 HT_.out ?_; refine tM 16 135 HT_.out HW_.out hHeld ?_; refine pM 17 136 HT_.out ?_; refine tM 18 137 HT_.out HW_.out hHeld ?_; refine tM 22 141 HT_.out HW_.out hHeld ?_; refine pM 23 142 HT_.out ?_; refine tM 24 143 HT_.out HW_.out hHeld ?_; refine tM 29 148 HT_.out HW_.out hHeld ?_; refine pM 30 149 HT_.out ?_; refine tM 31 150 HT_.out HW_.out hHeld ?_; refine pM 32 151 HT_.out ?_; refine pM 33 152 HT_.out ?_
                      refine done_ (done_of HT_.out (by kernel_rfl)) ?_
                      try go_wp2
                      go_ret
                      exact ⟨by first | rfl | (simp [errW_none, errW_some] <;> rfl) | (simp [*, errW_none, errW_some] <;> rfl), upB2 HB.out GE510.out GE511.out⟩
                     ·rw [if_neg c84] at H
                      have c84b0 : ((rd (rd_L1 x512000_1 0) (rd t518 x17_4)) == (rd t503 (rd t518 x17_4))) = false := beq_eq_false_iff_ne.mpr c84
                      have c84b1 : ((rd (rd_L1 x512000_1 0) (rd t518 x17_4)) != (rd t503 (rd t518 x17_4))) = true := bne_iff_ne.mpr c84
                      have H' := Aside0.mk H
                      clear H
                      obtain ⟨Ao87, co87, eo87⟩ := Kd.R_slice HO_14.out
                      subst eo87
                      try go_wp2
                      replace HO_0 := Aside0.mk (Kd.V_drew HO_0.out)
                      replace HO_14 := Aside0.mk (Kd.R_drew HO_14.out)
                      replace HO_511000 := Aside0.mk (Kd.V_drew HO_511000.out)
                      replace HO_512000 := Aside0.mk (Kd.V_drew HO_512000.out)
                      replace BK510 := Aside0.mk (blk_drew BK510.out)
                      replace BK511 := Aside0.mk (blk_drew BK511.out)
                      replace HB := Aside0.mk (below_drew1 HB.out)
                      have p524 : 0 ≤ (x17_4 : Int) := of_decide_eq_true (by first | (with_reducible assumption) | assumption)
                      have q524 : x17_4 < (t518.length : Int) := of_decide_eq_true (by first | (with_reducible assumption) | assumption)
                      obtain ⟨ad524, e524, hx524_0⟩ := Kd.at_int (Kd.R_reads' HO_14.out).2.2 x17_4 p524 q524
                      cases e524
                      replace p524 := eq_true p524
                      replace q524 := eq_true q524
                      have p525 : 0 ≤ (x17_4 : Int) := of_decide_eq_true (by first | (with_reducible assumption) | assumption)
                      have q525 : x17_4 < (t518.length : Int) := of_decide_eq_true (by first | (with_reducible assumption) | assumption)
                      obtain ⟨ad525, e525, hx525_0⟩ := Kd.at_int (Kd.R_reads' HO_14.out).2.2 x17_4 p525 q525
                      obtain rfl : ad524 = ad525 := (by injection e525)
                      replace p525 := eq_true p525
                      replace q525 := eq_true q525
                      have p526 : 0 ≤ (0 : Int) := (by omega)
                      have q526 : 0 < (x512000_1.length : Int) := of_decide_eq_true (by first | (with_reducible assumption) | assumption)
                      obtain ⟨ad526, A526_0, c526_0, e526, hx526_0, hl526_0, hi526_0⟩ := at_L1 (Kd.V_reads' HO_512000.out).2.2 0 p526 q526
                      cases e526
                      obtain ⟨ce526, hce526, hMe526, hcc526⟩ := Kd.V_get HO_512000.out [] 0 p526 (by first | exact q526 | exact of_decide_eq_true (by first | (with_reducible assumption) | assumption) | (have e_ := (Kd.V_reads' HO_512000.out).1; omega))
                      obtain ⟨ua526_0, uc526_0, rfl, ul526_0, ge526_0⟩ := Kd.FK_slice_open hMe526
                      have hv526_0 := hcc526 0 _ rfl
                      rw [Nat.add_zero, show ((Kd.slice 25 (Kd.int .u32))).sz = 1 from rfl, Nat.mul_one] at hv526_0
                      replace hv526_0 := Option.some.inj (hv526_0.symm.trans hx526_0)
                      injection hv526_0 with hva_ hvn_ hvc_
                      rw [hva_] at ge526_0
                      rw [hvc_] at ul526_0
                      have HL526_0 := Aside0.mk (show Kd.V (Kd.int .u32) 25 _ w.heap.size _ _ (rd_L1 x512000_1 0) from Kd.V_mk ul526_0 ge526_0)
                      clear hva_ hvn_ hvc_ ge526_0 ul526_0
                      clear hcc526 hce526
                      have qi526 : (0 < x512000_1.length) = True := eq_true (by omega)
                      (try rw [show ((0 : Int)).toNat = 0 from rfl] at hx526_0)
                      (try rw [Addr.add_zero'] at hx526_0)
                      have HR526_0 := Aside0.mk hi526_0
                      have HC526_0 := Aside0.mk hl526_0
                      clear hi526_0 hl526_0
                      replace p526 := eq_true p526
                      replace q526 := eq_true q526
                      have p527 : 0 ≤ (x17_4 : Int) := of_decide_eq_true (by first | (with_reducible assumption) | assumption)
                      have q527 : x17_4 < (t518.length : Int) := of_decide_eq_true (by first | (with_reducible assumption) | assumption)
                      obtain ⟨ad527, e527, hx527_0⟩ := Kd.at_int (Kd.R_reads' HO_14.out).2.2 x17_4 p527 q527
                      obtain rfl : ad524 = ad527 := (by injection e527)
                      replace p527 := eq_true p527
                      replace q527 := eq_true q527
                      have p528 : 0 ≤ ((rd t518 x17_4) : Int) := of_decide_eq_true (by first | (with_reducible assumption) | assumption)
                      have q528 : (rd t518 x17_4) < ((rd_L1 x512000_1 0).length : Int) := of_decide_eq_true (by first | (with_reducible assumption) | assumption)
                      obtain ⟨ad528, e528, hx528_0⟩ := Kd.at_int (by repeat (first | (with_reducible exact HR526_0.out) | (with_reducible refine Kd.C_alloc ?_ _) | (with_reducible refine Kd.C_drewN ?_ _) | (with_reducible refine Kd.C_drew ?_) | exact HR526_0.out)) (rd t518 x17_4) p528 q528
                      cases e528
                      replace p528 := eq_true p528
                      replace q528 := eq_true q528
                      have p529 : 0 ≤ (x17_4 : Int) := of_decide_eq_true (by first | (with_reducible assumption) | assumption)
                      have q529 : x17_4 < (t518.length : Int) := of_decide_eq_true (by first | (with_reducible assumption) | assumption)
                      obtain ⟨ad529, e529, hx529_0⟩ := Kd.at_int (Kd.R_reads' HO_14.out).2.2 x17_4 p529 q529
                      obtain rfl : ad524 = ad529 := (by injection e529)
                      replace p529 := eq_true p529
                      replace q529 := eq_true q529
                      have p530 : 0 ≤ ((rd t518 x17_4) : Int) := of_decide_eq_true (by first | (with_reducible assumption) | assumption)
                      have q530 : (rd t518 x17_4) < (t503.length : Int) := of_decide_eq_true (by first | (with_reducible assumption) | assumption)
                      obtain ⟨ad530, e530, hx530_0⟩ := Kd.at_int (Kd.V_reads' HO_0.out).2.2 (rd t518 x17_4) p530 q530
                      cases e530
                      replace p530 := eq_true p530
                      replace q530 := eq_true q530
                      refine start_ (n := 34) (S := fun w' => w'.cell? ⟨gb511, 0, none⟩ = some (.slice (some ad526) x512000_1.length co51) ∧ w'.cell? (ad524.add (x17_4).toNat) = some (.int .i64 (rd t518 x17_4)) ∧ w'.cell? (ad524.add (x17_4).toNat) = some (.int .i64 (rd t518 x17_4)) ∧ w'.cell? ad526 = some (.slice (some ad528) (rd_L1 x512000_1 0).length c526_0) ∧ w'.cell? (ad524.add (x17_4).toNat) = some (.int .i64 (rd t518 x17_4)) ∧ w'.cell? (ad528.add ((rd t518 x17_4)).toNat) = some (.int .u32 (rd (rd_L1 x512000_1 0) (rd t518 x17_4))) ∧ w'.cell? (ad524.add (x17_4).toNat) = some (.int .i64 (rd t518 x17_4)) ∧ w'.cell? (ad530.add ((rd t518 x17_4)).toNat) = some (.int .u32 (rd t503 (rd t518 x17_4)))) (ds := []) (Array.replicate 34 false) (by kernel_rfl) rfl rfl ⟨(blk_cell BK511.out 0).trans rfl, hx524_0, hx525_0, hx526_0, hx527_0, hx528_0, hx529_0, hx530_0⟩ (fun hHeld => ?_); refine with_tabW plinthlaw25_TreeFew.tab23 plinthlaw25_TreeFew.bits23 (fun HT_ HW_ => ?_)
                      generalize wr.drew = w88 at HO_0 HO_14 HO_511000 HO_512000 BK510 BK511 HB HL526_0 HR526_0 hx524_0 hx525_0 hx526_0 hx527_0 hx528_0 hx529_0 hx530_0 hHeld ⊢
                      refine pM 0 119 HT_.out ?_; refine pM 1 120 HT_.out ?_; refine pM 2 121 HT_.out ?_; refine tM 3 122 HT_.out HW_.out hHeld ?_; refine pM 4 123 HT_.out ?_; refine pM 5 124 HT_.out ?_; refine pM 6 125 HT_.out ?_; refine pM 7 126 HT_.out ?_; refine pM 8 127 HT_.out ?_; refine pM 10 129 HT_.out ?_; refine pM 11 130 HT_.out ?_; refine tM 9 128 HT_.out HW_.out hHeld ?_; refine pM 12 131 HT_.out ?_; refine pM 13 132 HT_.out ?_; refine pM 14 133 HT_.out ?_; refine pM 15 134 HT_.out ?_; refine pM 19 138 HT_.out ?_; refine pM 20 139 HT_.out ?_; refine pM 21 140 HT_.out ?_; refine pM 25 144 HT_.out ?_; refine pM 26 145 HT_.out ?_; refine pM 27 146 HT_.out ?_; refine pM 28 147 HT_.out ?_; refine tM 16 135 HT_.out HW_.out hHeld ?_; refine pM 17 136 HT_.out ?_; refine tM 18 137 HT_.out HW_.out hHeld ?_; refine tM 22 141 HT_.out HW_.out hHeld ?_; refine pM 23 142 HT_.out ?_; refine tM 24 143 HT_.out HW_.out hHeld ?_; refine tM 29 148 HT_.out HW_.out hHeld ?_; refine pM 30 149 HT_.out ?_; refine tM 31 150 HT_.out HW_.out hHeld ?_; refine pM 32 151 HT_.out ?_; refine pM 33 152 HT_.out ?_
                      refine done_ (done_of HT_.out (by kernel_rfl)) ?_
                      try go_wp2
                      go_roundg k4
                      case measure => have := HK1.out; have := HJ18.out; have := HJ46.out; have := HK4.out; omega
                      case rel => exact ⟨(wrap64 (x17_4 + 1)), (by first | rfl | (simp; done) | (simp [*]; done)), H', ⟨by have := HK1.out; have := HJ18.out; have := HJ46.out; have := HK4.out; omega⟩, ⟨by refine upV ?_; exact HO_0.out⟩, ⟨by refine upR ?_; exact HO_14.out⟩, ⟨by refine upV ?_; exact HO_511000.out⟩, ⟨by refine upV ?_; exact HO_512000.out⟩, ⟨by refine upK ?_; exact BK510.out⟩, ⟨by refine upK ?_; exact BK511.out⟩, ⟨upB2 HB.out GE510.out GE511.out⟩⟩
                    ·rw [if_neg c83] at H
                     exact absurd H (by simp)
                   ·rw [if_neg c82] at H
                    exact absurd H (by simp)
                  ·rw [if_neg c81] at H
                   exact absurd H (by simp)
                 ·rw [if_neg c80] at H
                  exact absurd H (by simp)
              ·rw [if_neg c73] at H
               exact absurd H (by simp)
             ·rw [if_neg c72] at H
              have c72b0 : decide (x17_4 < (t518.length : Int)) = false := decide_eq_false c72
              clear c72
              obtain rfl := Option.some.inj H
              obtain ⟨Ao89, co89, eo89⟩ := Kd.R_slice HO_14.out
              subst eo89
              go_wp2
              go_ret
              exact ⟨by first | rfl | (simp [errW_none, errW_some] <;> rfl) | (simp [*, errW_none, errW_some] <;> rfl), upB2 HB.out GE510.out GE511.out⟩
  ·rw [if_neg c8] at H
   have c8b0 : (t509 == 0) = false := beq_eq_false_iff_ne.mpr c8
   have c8b1 : (t509 != 0) = true := bne_iff_ne.mpr c8
   by_cases c90 : (t503.length : Int) < 1
   ·rw [if_pos c90] at H
    have c90b0 : decide ((t503.length : Int) < 1) = true := decide_eq_true c90
    have c90b1 : decide (t503.length < 1) = true := decide_eq_true (by omega)
    clear c90
    obtain rfl := Option.some.inj H
    go_enter Try.func8, Try.ntmps8
    go_wp2_with (first | ((with_reducible refine gate_callee (f := 19) rfl ?_); refine goesL_ (some 18) rfl rfl Try.func19 (by kernel_rfl) rfl #[] rfl argA ?_; (with_reducible refine (plinthlaw25_awake.calls k  true _ A4.out).mono ?_); rintro e w91 ⟨rfl, hb⟩; refine ⟨_, rfl, ?_⟩; replace HB := Aside0.mk (below_step (upB0 HB.out) hb); (try clear hb); (try clear hb2); (try clear hk); (try clear hi)) | ((with_reducible refine gate_callee (f := 20) rfl ?_); refine goesL_ (some 21) rfl rfl Try.func20 (by kernel_rfl) rfl #[.slice A0 l0.length c0] rfl argA ?_; (with_reducible refine (plinthlaw25_few.calls (fun k_ => k_ < w.heap.size) _ _ l0 t503 _ ?side1 A6.out).mono ?_); (case side1 => exact Kd.V_mk HC0.out (Kd.F_below (Kd.C_F (Kd.heap_int .u32) HR0.out) (upB0 HB.out))); rintro e w92 ⟨v504, rfl, ho0, hb⟩; refine ⟨_, rfl, ?_⟩; have HO505 := Aside0.mk (Kd.V_lower (Kd.V_mono (ok' := fun k_ => True) ho0 (fun k_ hk_ => trivial)) (below_size (upB0 HB.out))); replace HB := Aside0.mk (below_step (upB0 HB.out) hb); (try clear hb); (try clear hb2); (try clear hk); (try clear hi); (try clear ho0); obtain ⟨Ao93, co93, eo93⟩ := Kd.V_slice HO505.out; subst eo93) | ((with_reducible refine gate_callee (f := 21) rfl ?_); refine goesL_ (some 24) rfl rfl Try.func21 (by kernel_rfl) rfl #[.slice Ao93 t503.length co93] rfl argA ?_; (with_reducible refine (tree_Make.calls k _ _ t503 t506 t509 _ ?side1 ?side2 A7.out).mono ?_); (case side1 => exact upC ((Kd.V_reads' HO505.out).2.2)); (case side2 => exact (Kd.V_reads' HO505.out).2.1); rintro e w94 ⟨v507, rfl, ho0, hb⟩; refine ⟨_, rfl, ?_⟩; replace HO505 := Aside0.mk (Kd.V_below (upV HO505.out) hb); have HO508 := Aside0.mk (Kd.V_lower (Kd.V_mono (ok' := fun k_ => True) ho0 (fun k_ hk_ => trivial)) (below_size (upB0 HB.out))); replace HB := Aside0.mk (below_step (upB0 HB.out) hb); (try clear hb); (try clear hb2); (try clear hk); (try clear hi); (try clear ho0)) | ((with_reducible refine gate_dst (N := 7) rfl ?_); (try (refine gate_guard (by rfl) ?_; dsimp only)); refine box_event ?hg (N := 7) ?hd (cs := #[.slice none 0 0]) (t := 24) ?hr ?_; (case hd => rfl); (case hg => rfl); (case hr => first | (go_simp; done) | (go_simp; rfl)); intro gb510 hg w95 hbox hb; replace HO505 := Aside0.mk (Kd.V_below (Kd.V_elderB (upV HO505.out) gb510 (Nat.le_of_eq hg.symm)) hb); replace HO508 := Aside0.mk (Kd.V_below (Kd.V_elderB (upV HO508.out) gb510 (Nat.le_of_eq hg.symm)) hb); have BK510 := Aside0.mk (hbox); have GW510 := Aside0.mk ((by rw [hg]; exact (below_size (upB0 HB.out)) : w.heap.size ≤ gb510)); have GE510 := Aside0.mk ((by rw [hg]; exact (below_size (upB0 HB.out)) : w.heap.size ≤ gb510)); replace HB := Aside0.mk (below_step (upB0 HB.out) hb); clear hb hbox hg; obtain ⟨Ao96, co96, eo96⟩ := Kd.V_slice HO508.out; subst eo96; obtain ⟨hcz97_0, hfz97_0⟩ := cells1 BK510.out))
    go_ret
    exact ⟨by first | rfl | (simp [errW_none, errW_some] <;> rfl) | (simp [*, errW_none, errW_some] <;> rfl), upB1 HB.out GE510.out⟩
   ·rw [if_neg c90] at H
    have c90b0 : decide ((t503.length : Int) < 1) = false := decide_eq_false c90
    have c90b1 : decide (t503.length < 1) = false := decide_eq_false (by omega)
    clear c90
    obtain rfl := Option.some.inj H
    go_enter Try.func8, Try.ntmps8
    go_wp2_with (first | ((with_reducible refine gate_callee (f := 19) rfl ?_); refine goesL_ (some 18) rfl rfl Try.func19 (by kernel_rfl) rfl #[] rfl argA ?_; (with_reducible refine (plinthlaw25_awake.calls k  true _ A4.out).mono ?_); rintro e w98 ⟨rfl, hb⟩; refine ⟨_, rfl, ?_⟩; replace HB := Aside0.mk (below_step (upB0 HB.out) hb); (try clear hb); (try clear hb2); (try clear hk); (try clear hi)) | ((with_reducible refine gate_callee (f := 20) rfl ?_); refine goesL_ (some 21) rfl rfl Try.func20 (by kernel_rfl) rfl #[.slice A0 l0.length c0] rfl argA ?_; (with_reducible refine (plinthlaw25_few.calls (fun k_ => k_ < w.heap.size) _ _ l0 t503 _ ?side1 A6.out).mono ?_); (case side1 => exact Kd.V_mk HC0.out (Kd.F_below (Kd.C_F (Kd.heap_int .u32) HR0.out) (upB0 HB.out))); rintro e w99 ⟨v504, rfl, ho0, hb⟩; refine ⟨_, rfl, ?_⟩; have HO505 := Aside0.mk (Kd.V_lower (Kd.V_mono (ok' := fun k_ => True) ho0 (fun k_ hk_ => trivial)) (below_size (upB0 HB.out))); replace HB := Aside0.mk (below_step (upB0 HB.out) hb); (try clear hb); (try clear hb2); (try clear hk); (try clear hi); (try clear ho0); obtain ⟨Ao100, co100, eo100⟩ := Kd.V_slice HO505.out; subst eo100) | ((with_reducible refine gate_callee (f := 21) rfl ?_); refine goesL_ (some 24) rfl rfl Try.func21 (by kernel_rfl) rfl #[.slice Ao100 t503.length co100] rfl argA ?_; (with_reducible refine (tree_Make.calls k _ _ t503 t506 t509 _ ?side1 ?side2 A7.out).mono ?_); (case side1 => exact upC ((Kd.V_reads' HO505.out).2.2)); (case side2 => exact (Kd.V_reads' HO505.out).2.1); rintro e w101 ⟨v507, rfl, ho0, hb⟩; refine ⟨_, rfl, ?_⟩; replace HO505 := Aside0.mk (Kd.V_below (upV HO505.out) hb); have HO508 := Aside0.mk (Kd.V_lower (Kd.V_mono (ok' := fun k_ => True) ho0 (fun k_ hk_ => trivial)) (below_size (upB0 HB.out))); replace HB := Aside0.mk (below_step (upB0 HB.out) hb); (try clear hb); (try clear hb2); (try clear hk); (try clear hi); (try clear ho0)) | ((with_reducible refine gate_dst (N := 7) rfl ?_); (try (refine gate_guard (by rfl) ?_; dsimp only)); refine box_event ?hg (N := 7) ?hd (cs := #[.slice none 0 0]) (t := 24) ?hr ?_; (case hd => rfl); (case hg => rfl); (case hr => first | (go_simp; done) | (go_simp; rfl)); intro gb510 hg w102 hbox hb; replace HO505 := Aside0.mk (Kd.V_below (Kd.V_elderB (upV HO505.out) gb510 (Nat.le_of_eq hg.symm)) hb); replace HO508 := Aside0.mk (Kd.V_below (Kd.V_elderB (upV HO508.out) gb510 (Nat.le_of_eq hg.symm)) hb); have BK510 := Aside0.mk (hbox); have GW510 := Aside0.mk ((by rw [hg]; exact (below_size (upB0 HB.out)) : w.heap.size ≤ gb510)); have GE510 := Aside0.mk ((by rw [hg]; exact (below_size (upB0 HB.out)) : w.heap.size ≤ gb510)); replace HB := Aside0.mk (below_step (upB0 HB.out) hb); clear hb hbox hg; obtain ⟨Ao103, co103, eo103⟩ := Kd.V_slice HO508.out; subst eo103; obtain ⟨hcz104_0, hfz104_0⟩ := cells1 BK510.out))
    go_ret
    exact ⟨by first | rfl | (simp [errW_none, errW_some] <;> rfl) | (simp [*, errW_none, errW_some] <;> rfl), upB1 HB.out GE510.out⟩
 ·replace c5 := Bool.eq_false_iff.mpr c5
  subst c5
  have H1 : (some false) = some r := by rw [if_neg (show ¬ (false = true) by decide)] at H; exact H
  clear H
  have H := H1
  clear H1
  obtain rfl := Option.some.inj H
  go_enter Try.func8, Try.ntmps8
  go_wp2_with (first | ((with_reducible refine gate_callee (f := 19) rfl ?_); refine goesL_ (some 18) rfl rfl Try.func19 (by kernel_rfl) rfl #[] rfl argA ?_; (with_reducible refine (plinthlaw25_awake.calls k  false _ A4.out).mono ?_); rintro e w105 ⟨rfl, hb⟩; refine ⟨_, rfl, ?_⟩; replace HB := Aside0.mk (below_step (upB0 HB.out) hb); (try clear hb); (try clear hb2); (try clear hk); (try clear hi)))
  go_ret
  exact ⟨by first | rfl | (simp [errW_none, errW_some] <;> rfl) | (simp [*, errW_none, errW_some] <;> rfl), upB0 HB.out⟩

/-- THE ONE PURE STATEMENT of plinthlaw25_TreeFew: yours. -/
def plinthlaw25_TreeFew.Pure : Prop := ∀ (l0 : List Int) (l1 : List Int) (a2 : Int), l0.length ≤ maxLen → l0.length * 4 ≤ 140737488351232 → (∀ x ∈ l0, (Lit.int .u32 x).wf = true) → l1.length ≤ maxLen → l1.length * 2 ≤ 140737488351232 → (∀ x ∈ l1, (Lit.int .u16 x).wf = true) → (Lit.int .u32 a2).wf = true → ∃ k, plinthlaw25_TreeFew.f k l0 l1 a2 = some true
theorem plinthlaw25_TreeFew.walk (P : plinthlaw25_TreeFew.Pure) (a0 : Option Addr) (len0 cap0 : Nat) (z0 : List Int) (a1 : Option Addr) (len1 cap1 : Nat) (z1 : List Int) (a2 : Int) (w : World) (w0 : (a0 = none ∧ len0 = 0 ∧ cap0 = 0 ∧ z0 = []) ∨ ∃ x, a0 = some x ∧ len0 ≤ cap0 ∧ cap0 ≤ maxLen ∧ z0.length = cap0 ∧ (∀ i, i < z0.length → w.cell? (x.add i) = some (.int .u32 (z0.getD i 0))) ∧ ∀ n ∈ z0, (Lit.int .u32 n).wf = true) (y0 : len0 * 4 ≤ 140737488351232) (w1 : (a1 = none ∧ len1 = 0 ∧ cap1 = 0 ∧ z1 = []) ∨ ∃ x, a1 = some x ∧ len1 ≤ cap1 ∧ cap1 ≤ maxLen ∧ z1.length = cap1 ∧ (∀ i, i < z1.length → w.cell? (x.add i) = some (.int .u16 (z1.getD i 0))) ∧ ∀ n ∈ z1, (Lit.int .u16 n).wf = true) (y1 : len1 * 2 ≤ 140737488351232) (w2 : (Lit.int .u32 a2).wf = true) :
  Calls Try.prog 8 #[.slice a0 len0 cap0, .slice a1 len1 cap1, .int .u32 a2] w fun e w' => e = .returned (.bool true) ∧ Below w.heap.size w w' := by
 obtain ⟨l0, rfl, hr0, hm0, hw0, hc0⟩ := ReadsInt.ofRowC w0
 obtain ⟨l1, rfl, hr1, hm1, hw1, hc1⟩ := ReadsInt.ofRowC w1
 obtain ⟨k, h⟩ := P l0 l1 a2 hm0 y0 hw0 hm1 y1 hw1 w2
 refine (plinthlaw25_TreeFew.calls k _ _ l0 _ _ l1 a2 true w (Kd.C_of_reads (d := (0 : Int)) (h1 := fun _ => rfl) hr0) hc0 (Kd.C_of_reads (d := (0 : Int)) (h1 := fun _ => rfl) hr1) hc1 ⟨rfl⟩ h).mono ?_
 rintro e w' ⟨rfl, hd⟩
 exact ⟨rfl, hd⟩

end Go.Proofs.Ytbmmddngadnofaa.F
