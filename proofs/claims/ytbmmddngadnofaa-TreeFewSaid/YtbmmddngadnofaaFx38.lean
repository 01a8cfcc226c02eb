-- Written by ext (this session's own program).
-- in short rows (short.py)
import Derived.Test.YtbmmddngadnofaaFx0
import Derived.Test.YtbmmddngadnofaaFx19
namespace Go.Proofs.Ytbmmddngadnofaa.F
open Go.RowKit Go.Proofs.YtbmmddngadnofaaW.PrintWords Go.Proofs.YtbmmddngadnofaaW.PrintLast Go.Proofs.YtbmmddngadnofaaW.PrintMore
attribute [local go_sem] max2_int min2_int max_two min_two max_three min_three max_four min_four   -- for this text's walks alone
set_option linter.unusedVariables false
set_option linter.unusedSimpArgs false

/-! ### plinthref25_Diff: function 36 -/
mutual
def plinthref25_Diff.j0 : Nat → Bool → List (List Int) → List (List Int) → Option (List Int × Int × Int)
 | 0, _, _, _ => none
 | k + 1, x35, x456000, x457000 => if x35 = true then (some (([] : List Int), 0, 250)) else (plinthref25_Diff.l0 k (([0] : List Int)) 0 (wrap64 ((x456000.length : Int) - 1)) x456000 x457000)
def plinthref25_Diff.l0 : Nat → List Int → Int → Int → List (List Int) → List (List Int) → Option (List Int × Int × Int)
 | 0, _, _, _, _, _ => none
 | k + 1, x7, x8, x9, x456000, x457000 => if x9 ≥ 0 then (plinthref25_Diff.l1 k x7 x8 x9 ([] : List Int) 0 x456000 x457000) else (some (x7, x8, 0))
def plinthref25_Diff.l1 : Nat → List Int → Int → Int → List Int → Int → List (List Int) → List (List Int) → Option (List Int × Int × Int)
 | 0, _, _, _, _, _, _, _ => none
 | k + 1, x7, x8, x9, x10, x11, x456000, x457000 => if x11 < (x7.length : Int) then (if 0 ≤ x9 then (if x9 < (x456000.length : Int) then (if 0 ≤ x11 then (if 0 ≤ (rd x7 x11) then (if (rd x7 x11) < ((rd_L1 x456000 x9).length : Int) then (if x9 < (x457000.length : Int) then (if (rd x7 x11) < ((rd_L1 x457000 x9).length : Int) then (if (rd (rd_L1 x456000 x9) (rd x7 x11)) = (rd (rd_L1 x457000 x9) (rd x7 x11)) then (plinthref25_Diff.l1 k x7 (wrap64 (x8 + 1)) x9 x10 (wrap64 (x11 + 1)) x456000 x457000) else (if x10.length < 17592186044416 then (plinthref25_Diff.l1 k x7 (wrap64 (x8 + 1)) x9 (x10 ++ [rd x7 x11]) (wrap64 (x11 + 1)) x456000 x457000) else (none))) else (none)) else (none)) else (none)) else (none)) else (none)) else (none)) else (none)) else (if x9 = 0 then (some (x10, x8, 0)) else (plinthref25_Diff.l2 k x10 x8 x9 ([] : List Int) 0 x456000 x457000))
def plinthref25_Diff.l2 : Nat → List Int → Int → Int → List Int → Int → List (List Int) → List (List Int) → Option (List Int × Int × Int)
 | 0, _, _, _, _, _, _, _ => none
 | k + 1, x7, x8, x9, x12, x13, x456000, x457000 => if x13 < (x7.length : Int) then (plinthref25_Diff.l3 k x7 x8 x9 x12 x13 0 x456000 x457000) else (plinthref25_Diff.l0 k x12 x8 (wrap64 (x9 - 1)) x456000 x457000)
def plinthref25_Diff.l3 : Nat → List Int → Int → Int → List Int → Int → Int → List (List Int) → List (List Int) → Option (List Int × Int × Int)
 | 0, _, _, _, _, _, _, _, _ => none
 | k + 1, x7, x8, x9, x12, x13, x14, x456000, x457000 => if x14 < 4 then (if 0 ≤ x13 then (if x13 < (x7.length : Int) then (if 0 ≤ (wrap64 (x9 - 1)) then (if (wrap64 (x9 - 1)) < (x456000.length : Int) then (if (wrap64 ((wrap64 ((rd x7 x13) * 4)) + x14)) < ((rd_L1 x456000 (wrap64 (x9 - 1))).length : Int) then (if x12.length < 17592186044416 then (plinthref25_Diff.l3 k x7 x8 x9 (x12 ++ [wrap64 ((wrap64 ((rd x7 x13) * 4)) + x14)]) x13 (wrap64 (x14 + 1)) x456000 x457000) else (none)) else (plinthref25_Diff.l2 k x7 x8 x9 x12 (wrap64 (x13 + 1)) x456000 x457000)) else (none)) else (none)) else (none)) else (none)) else (plinthref25_Diff.l2 k x7 x8 x9 x12 (wrap64 (x13 + 1)) x456000 x457000)
end
def plinthref25_Diff.f (k : Nat) (l0_0 : List (List Int)) (l1_0 : List (List Int)) : Option (List Int × Int × Int) := (plinthref25_Check.f k l0_0).bind fun t457 => (if t457 = 0 then ((plinthref25_Check.f k l1_0).bind fun t458 => (if t458 = 0 then (if 0 < (l0_0.length : Int) then (if 0 < (l1_0.length : Int) then (plinthref25_Diff.j0 k (((rd_L1 l0_0 0).length : Int) != ((rd_L1 l1_0 0).length : Int)) l0_0 l1_0) else (none)) else (none)) else (plinthref25_Diff.j0 k true l0_0 l1_0))) else (plinthref25_Diff.j0 k true l0_0 l1_0))
theorem plinthref25_Diff.mono_l : ∀ k, (∀ y0 y1 y2, LeO (plinthref25_Diff.j0 k y0 y1 y2) (plinthref25_Diff.j0 (k + 1) y0 y1 y2)) ∧ (∀ y0 y1 y2 y3 y4, LeO (plinthref25_Diff.l0 k y0 y1 y2 y3 y4) (plinthref25_Diff.l0 (k + 1) y0 y1 y2 y3 y4)) ∧ (∀ y0 y1 y2 y3 y4 y5 y6, LeO (plinthref25_Diff.l1 k y0 y1 y2 y3 y4 y5 y6) (plinthref25_Diff.l1 (k + 1) y0 y1 y2 y3 y4 y5 y6)) ∧ (∀ y0 y1 y2 y3 y4 y5 y6, LeO (plinthref25_Diff.l2 k y0 y1 y2 y3 y4 y5 y6) (plinthref25_Diff.l2 (k + 1) y0 y1 y2 y3 y4 y5 y6)) ∧ (∀ y0 y1 y2 y3 y4 y5 y6 y7, LeO (plinthref25_Diff.l3 k y0 y1 y2 y3 y4 y5 y6 y7) (plinthref25_Diff.l3 (k + 1) y0 y1 y2 y3 y4 y5 y6 y7))
 | 0 => ⟨fun _ _ _ r h => by simp [plinthref25_Diff.j0] at h, fun _ _ _ _ _ r h => by simp [plinthref25_Diff.l0] at h, fun _ _ _ _ _ _ _ r h => by simp [plinthref25_Diff.l1] at h, fun _ _ _ _ _ _ _ r h => by simp [plinthref25_Diff.l2] at h, fun _ _ _ _ _ _ _ _ r h => by simp [plinthref25_Diff.l3] at h⟩
 | k + 1 => by
  obtain ⟨ih0, ih1, ih2, ih3, ih4⟩ := plinthref25_Diff.mono_l k
  refine ⟨?_, ?_, ?_, ?_, ?_⟩
  ·intro y0 y1 y2
   unfold plinthref25_Diff.j0
   repeat' first
   | (with_reducible exact ih0 _ _ _)
   | (with_reducible exact ih1 _ _ _ _ _)
   | (with_reducible exact ih2 _ _ _ _ _ _ _)
   | (with_reducible exact ih3 _ _ _ _ _ _ _)
   | (with_reducible exact ih4 _ _ _ _ _ _ _ _)
   | (with_reducible exact plinthref25_Check.mono _ _)
   | (with_reducible exact LeO.refl _)
   | (with_reducible exact LeO.none _)
   | (with_reducible refine LeO.ite ?_ ?_)
   | (with_reducible refine LeO.bind ?_ (fun _ => ?_))
   | exact ih0 _ _ _
   | exact ih1 _ _ _ _ _
   | exact ih2 _ _ _ _ _ _ _
   | exact ih3 _ _ _ _ _ _ _
   | exact ih4 _ _ _ _ _ _ _ _
   | exact plinthref25_Check.mono _ _
   | exact LeO.none _
   | refine LeO.ite ?_ ?_
   | refine LeO.bind ?_ (fun _ => ?_)
  ·intro y0 y1 y2 y3 y4
   unfold plinthref25_Diff.l0
   repeat' first
   | (with_reducible exact ih0 _ _ _)
   | (with_reducible exact ih1 _ _ _ _ _)
   | (with_reducible exact ih2 _ _ _ _ _ _ _)
   | (with_reducible exact ih3 _ _ _ _ _ _ _)
   | (with_reducible exact ih4 _ _ _ _ _ _ _ _)
   | (with_reducible exact plinthref25_Check.mono _ _)
   | (with_reducible exact LeO.refl _)
   | (with_reducible exact LeO.none _)
   | (with_reducible refine LeO.ite ?_ ?_)
   | (with_reducible refine LeO.bind ?_ (fun _ => ?_))
   | exact ih0 _ _ _
   | exact ih1 _ _ _ _ _
   | exact ih2 _ _ _ _ _ _ _
   | exact ih3 _ _ _ _ _ _ _
   | exact ih4 _ _ _ _ _ _ _ _
   | exact plinthref25_Check.mono _ _
   | exact LeO.none _
   | refine LeO.ite ?_ ?_
   | refine LeO.bind ?_ (fun _ => ?_)
  ·intro y0 y1 y2 y3 y4 y5 y6
   unfold plinthref25_Diff.l1
   repeat' first
   | (with_reducible exact ih0 _ _ _)
   | (with_reducible exact ih1 _ _ _ _ _)
   | (with_reducible exact ih2 _ _ _ _ _ _ _)
   | (with_reducible exact ih3 _ _ _ _ _ _ _)
   | (with_reducible exact ih4 _ _ _ _ _ _ _ _)
   | (with_reducible exact plinthref25_Check.mono _ _)
   | (with_reducible exact LeO.refl _)
   | (with_reducible exact LeO.none _)
   | (with_reducible refine LeO.ite ?_ ?_)
   | (with_reducible refine LeO.bind ?_ (fun _ => ?_))
   | exact ih0 _ _ _
   | exact ih1 _ _ _ _ _
   | exact ih2 _ _ _ _ _ _ _
   | exact ih3 _ _ _ _ _ _ _
   | exact ih4 _ _ _ _ _ _ _ _
   | exact plinthref25_Check.mono _ _
   | exact LeO.none _
   | refine LeO.ite ?_ ?_
   | refine LeO.bind ?_ (fun _ => ?_)
  ·intro y0 y1 y2 y3 y4 y5 y6
   unfold plinthref25_Diff.l2
   repeat' first
   | (with_reducible exact ih0 _ _ _)
   | (with_reducible exact ih1 _ _ _ _ _)
   | (with_reducible exact ih2 _ _ _ _ _ _ _)
   | (with_reducible exact ih3 _ _ _ _ _ _ _)
   | (with_reducible exact ih4 _ _ _ _ _ _ _ _)
   | (with_reducible exact plinthref25_Check.mono _ _)
   | (with_reducible exact LeO.refl _)
   | (with_reducible exact LeO.none _)
   | (with_reducible refine LeO.ite ?_ ?_)
   | (with_reducible refine LeO.bind ?_ (fun _ => ?_))
   | exact ih0 _ _ _
   | exact ih1 _ _ _ _ _
   | exact ih2 _ _ _ _ _ _ _
   | exact ih3 _ _ _ _ _ _ _
   | exact ih4 _ _ _ _ _ _ _ _
   | exact plinthref25_Check.mono _ _
   | exact LeO.none _
   | refine LeO.ite ?_ ?_
   | refine LeO.bind ?_ (fun _ => ?_)
  ·intro y0 y1 y2 y3 y4 y5 y6 y7
   unfold plinthref25_Diff.l3
   repeat' first
   | (with_reducible exact ih0 _ _ _)
   | (with_reducible exact ih1 _ _ _ _ _)
   | (with_reducible exact ih2 _ _ _ _ _ _ _)
   | (with_reducible exact ih3 _ _ _ _ _ _ _)
   | (with_reducible exact ih4 _ _ _ _ _ _ _ _)
   | (with_reducible exact plinthref25_Check.mono _ _)
   | (with_reducible exact LeO.refl _)
   | (with_reducible exact LeO.none _)
   | (with_reducible refine LeO.ite ?_ ?_)
   | (with_reducible refine LeO.bind ?_ (fun _ => ?_))
   | exact ih0 _ _ _
   | exact ih1 _ _ _ _ _
   | exact ih2 _ _ _ _ _ _ _
   | exact ih3 _ _ _ _ _ _ _
   | exact ih4 _ _ _ _ _ _ _ _
   | exact plinthref25_Check.mono _ _
   | exact LeO.none _
   | refine LeO.ite ?_ ?_
   | refine LeO.bind ?_ (fun _ => ?_)
theorem plinthref25_Diff.mono : ∀ a0 a1 k, LeO (plinthref25_Diff.f k a0 a1) (plinthref25_Diff.f (k + 1) a0 a1) := by
 intro a0 a1 k
 obtain ⟨ih0, ih1, ih2, ih3, ih4⟩ := plinthref25_Diff.mono_l k
 unfold plinthref25_Diff.f
 repeat' first
   | (with_reducible exact ih0 _ _ _)
   | (with_reducible exact ih1 _ _ _ _ _)
   | (with_reducible exact ih2 _ _ _ _ _ _ _)
   | (with_reducible exact ih3 _ _ _ _ _ _ _)
   | (with_reducible exact ih4 _ _ _ _ _ _ _ _)
   | (with_reducible exact plinthref25_Check.mono _ _)
   | (with_reducible exact LeO.refl _)
   | (with_reducible exact LeO.none _)
   | (with_reducible refine LeO.ite ?_ ?_)
   | (with_reducible refine LeO.bind ?_ (fun _ => ?_))
   | exact ih0 _ _ _
   | exact ih1 _ _ _ _ _
   | exact ih2 _ _ _ _ _ _ _
   | exact ih3 _ _ _ _ _ _ _
   | exact ih4 _ _ _ _ _ _ _ _
   | exact plinthref25_Check.mono _ _
   | exact LeO.none _
   | refine LeO.ite ?_ ?_
   | refine LeO.bind ?_ (fun _ => ?_)
def plinthref25_Diff.T1 : Bool × List (List Nat × List Nat) := (true, [([], []), ([0], [0]), ([1], [1]), ([2, 1], [2]), ([3], [3]), ([4, 3, 3], [3, 4]), ([5, 3], [3, 5]), ([3, 6], [3, 6]), ([7, 5], [7]), ([8], [8]), ([9, 8], [8, 9]), ([10, 8], [8, 10]), ([11, 8], [8, 11]), ([12, 8], [8, 12]), ([8], [8]), ([14, 8], [8, 14]), ([15, 8], [8, 15]), ([16, 8], [8, 16]), ([17, 8], [8, 17]), ([13, 18, 8], [8, 13, 18]), ([8, 19], [8, 19])])
def plinthref25_Diff.B1 : List Nat := [0, 1, 3, 7, 15, 31, 63, 127, 255, 511, 1023, 2047, 4095, 8191, 511, 16895, 49663, 115199, 246271, 524287, 1048575]
theorem plinthref25_Diff.tab1 : rtab .any (opsOf Try.f36 1) = plinthref25_Diff.T1 := by kernel_rfl
theorem plinthref25_Diff.bits1 : waitsOk plinthref25_Diff.T1.2 plinthref25_Diff.B1 = true := by kernel_rfl
def plinthref25_Diff.T13 : Bool × List (List Nat × List Nat) := (true, [([], []), ([0], [0]), ([], []), ([1, 2], [1, 2]), ([3], [3]), ([], []), ([], []), ([5, 6], [5, 6]), ([7], [7]), ([4, 8], [4, 8]), ([9], [9]), ([], []), ([11], [11]), ([], []), ([12, 13], [12, 13]), ([14], [14]), ([], []), ([], []), ([16, 17], [16, 17]), ([18], [18]), ([15, 19], [15, 19]), ([20], [20]), ([10, 21], [10, 21])])
def plinthref25_Diff.B13 : List Nat := [0, 1, 0, 7, 15, 0, 0, 96, 224, 511, 1023, 0, 2048, 0, 14336, 30720, 0, 0, 196608, 458752, 1046528, 2095104, 4194303]
theorem plinthref25_Diff.tab13 : rtab .any (opsOf Try.f36 13) = plinthref25_Diff.T13 := by kernel_rfl
theorem plinthref25_Diff.bits13 : waitsOk plinthref25_Diff.T13.2 plinthref25_Diff.B13 = true := by kernel_rfl
def plinthref25_Diff.T22 : Bool × List (List Nat × List Nat) := (true, [([], []), ([0], [0]), ([1], [1]), ([2], [2]), ([2], [2]), ([3, 4, 2], [2, 3, 4]), ([5, 2], [2, 5]), ([6, 2], [2, 6]), ([2], [2]), ([7, 8, 2], [2, 7, 8]), ([2], [2]), ([10, 2], [2, 10]), ([2], [2]), ([12, 2], [2, 12]), ([11, 13, 2], [2, 11, 13]), ([14, 2], [2, 14]), ([15, 2], [2, 15]), ([9, 16, 2], [2, 9, 16]), ([2, 17], [2, 17])])
def plinthref25_Diff.B22 : List Nat := [0, 1, 3, 7, 7, 31, 63, 127, 7, 511, 7, 1031, 7, 4103, 15367, 31751, 64519, 131071, 262143]
theorem plinthref25_Diff.tab22 : rtab .any (opsOf Try.f36 22) = plinthref25_Diff.T22 := by kernel_rfl
theorem plinthref25_Diff.bits22 : waitsOk plinthref25_Diff.T22.2 plinthref25_Diff.B22 = true := by kernel_rfl
set_option maxHeartbeats 8000000 in
set_option maxRecDepth 100000 in
theorem plinthref25_Diff.calls (k : Nat) (A0_0 : Option Addr) (c0_0 : Nat) (l0_0 : List (List Int)) (A1_0 : Option Addr) (c1_0 : Nat) (l1_0 : List (List Int)) (r1 : List Int) (r2 : Int) (r3 : Int) (w : World) (hr0_0 : Kd.C (Kd.slice 25 (Kd.int .u32)) w A0_0 l0_0.length l0_0) (hc0_0 : l0_0.length ≤ c0_0) (hr1_0 : Kd.C (Kd.slice 25 (Kd.int .u32)) w A1_0 l1_0.length l1_0) (hc1_0 : l1_0.length ≤ c1_0) (h : plinthref25_Diff.f k l0_0 l1_0 = some (r1, r2, r3)) :
  Calls Try.prog 36 #[.agg #[.slice A0_0 l0_0.length c0_0], .agg #[.slice A1_0 l1_0.length c1_0]] w fun e w' => ∃ v0_ : Value, e = .returned (.tuple #[v0_, .int .i64 r2, .int .i64 r3]) ∧ Kd.R (Kd.int .i64) 3 w' w.heap.size (fun _ => True) v0_ r1 ∧ Below w.heap.size w w' := by
 have hu24 := Try.underlying24
 have HR0_0 := Aside0.mk hr0_0
 have HC0_0 := Aside0.mk hc0_0
 clear hr0_0 hc0_0
 have HR1_0 := Aside0.mk hr1_0
 have HC1_0 := Aside0.mk hc1_0
 clear hr1_0 hc1_0
 have HB := Aside0.mk (Below.refl w.heap.size w)
 have H : ((plinthref25_Check.f k l0_0).bind fun t457 => (if t457 = 0 then ((plinthref25_Check.f k l1_0).bind fun t458 => (if t458 = 0 then (if 0 < (l0_0.length : Int) then (if 0 < (l1_0.length : Int) then (plinthref25_Diff.j0 k (((rd_L1 l0_0 0).length : Int) != ((rd_L1 l1_0 0).length : Int)) l0_0 l1_0) else (none)) else (none)) else (plinthref25_Diff.j0 k true l0_0 l1_0))) else (plinthref25_Diff.j0 k true l0_0 l1_0))) = some (r1, r2, r3) := h
 clear h
 have HC3 := Aside0.mk H
 clear H
 go_enter Try.func36, Try.ntmps36
 go_upto_region 1 with (first | ((with_reducible refine gate_dst (N := 2) rfl ?_); (try (refine gate_guard (by rfl) ?_; dsimp only)); refine box_event ?hg (N := 2) ?hd (cs := #[.slice A0_0 l0_0.length c0_0]) (t := 24) ?hr ?_; (case hd => rfl); (case hg => rfl); (case hr => first | (go_simp; done) | (go_simp; rfl)); intro gb455 hg w4 hbox hb; have BK455 := Aside0.mk (hbox); have GW455 := Aside0.mk ((by rw [hg]; exact (below_size (upB0 HB.out)) : w.heap.size ≤ gb455)); have GE455 := Aside0.mk ((by rw [hg]; exact (below_size (upB0 HB.out)) : w.heap.size ≤ gb455)); replace HB := Aside0.mk (below_step (upB0 HB.out) hb); clear hb hbox hg) | ((with_reducible refine gate_dst (N := 3) rfl ?_); (try (refine gate_guard (by rfl) ?_; dsimp only)); refine box_event ?hg (N := 3) ?hd (cs := #[.slice A1_0 l1_0.length c1_0]) (t := 24) ?hr ?_; (case hd => rfl); (case hg => rfl); (case hr => first | (go_simp; done) | (go_simp; rfl)); intro gb456 hg w5 hbox hb; have BK456 := Aside0.mk (hbox); have GW456 := Aside0.mk ((by rw [hg]; exact (below_size (upB1 HB.out GE455.out)) : w.heap.size ≤ gb456)); have GE456 := Aside0.mk ((by rw [hg]; exact (below_size (upB1 HB.out GE455.out)) : w.heap.size ≤ gb456)); replace HB := Aside0.mk (below_step (upB1 HB.out GE455.out) hb); have NB455_456 := Aside0.mk ((by rw [hg]; exact Nat.ne_of_lt (blk_lt (upK BK455.out)) : gb455 ≠ gb456)); have NB456_455 := Aside0.mk ((by rw [hg]; exact Nat.ne_of_gt (blk_lt (upK BK455.out)) : gb456 ≠ gb455)); replace BK455 := Aside0.mk (blk_below (upK BK455.out) hb); clear hb hbox hg))
 (try simp only [Act.put, List.setIfInBounds_toArray, List.set_cons_zero, List.set_cons_succ])
 go_cut [35] (fun v35 wc => ∃ (kq : Nat) (x35_2 : Bool), v35 = .bool x35_2 ∧ Aside0 (plinthref25_Diff.j0 kq x35_2 l0_0 l1_0 = some (r1, r2, r3)) ∧ Aside0 (kq ≤ k) ∧ Aside0 (wc.heap[gb455]? = some (.cells #[(.slice A0_0 l0_0.length c0_0)] 24 (0, 0))) ∧ Aside0 (wc.heap[gb456]? = some (.cells #[(.slice A1_0 l1_0.length c1_0)] 24 (0, 0))) ∧ Aside0 (Below w.heap.size w wc))
 case first =>
  have H := HC3.out
  clear HC3
  replace H := Option.bind_eq_some_iff.mp H
  obtain ⟨t457, A60, H⟩ := H
  replace H : (if t457 = 0 then ((plinthref25_Check.f k l1_0).bind fun t458 => (if t458 = 0 then (if 0 < (l0_0.length : Int) then (if 0 < (l1_0.length : Int) then (plinthref25_Diff.j0 k (((rd_L1 l0_0 0).length : Int) != ((rd_L1 l1_0 0).length : Int)) l0_0 l1_0) else (none)) else (none)) else (plinthref25_Diff.j0 k true l0_0 l1_0))) else (plinthref25_Diff.j0 k true l0_0 l1_0)) = some (r1, r2, r3) := H
  have A6 := Aside0.mk A60
  clear A60
  by_cases c7 : t457 = 0
  ·rw [if_pos c7] at H
   have c7b0 : (t457 == 0) = true := beq_iff_eq.mpr c7
   have c7b1 : (t457 != 0) = false := bne_eq_false_iff_eq.mpr c7
   clear c7
   (first | rw [c7b0] | (simp only [i64_w, i32_w]; rw [c7b0]) | skip)
   replace H := Option.bind_eq_some_iff.mp H
   obtain ⟨t458, A80, H⟩ := H
   replace H : (if t458 = 0 then (if 0 < (l0_0.length : Int) then (if 0 < (l1_0.length : Int) then (plinthref25_Diff.j0 k (((rd_L1 l0_0 0).length : Int) != ((rd_L1 l1_0 0).length : Int)) l0_0 l1_0) else (none)) else (none)) else (plinthref25_Diff.j0 k true l0_0 l1_0)) = some (r1, r2, r3) := H
   have A8 := Aside0.mk A80
   clear A80
   by_cases c9 : t458 = 0
   ·rw [if_pos c9] at H
    have c9b0 : (t458 == 0) = true := beq_iff_eq.mpr c9
    have c9b1 : (t458 != 0) = false := bne_eq_false_iff_eq.mpr c9
    clear c9
    by_cases c10 : 0 < (l0_0.length : Int)
    ·rw [if_pos c10] at H
     have c10b0 : decide (0 < (l0_0.length : Int)) = true := decide_eq_true c10
     have c10b1 : decide (0 < l0_0.length) = true := decide_eq_true (by omega)
     clear c10
     by_cases c11 : 0 < (l1_0.length : Int)
     ·rw [if_pos c11] at H
      have c11b0 : decide (0 < (l1_0.length : Int)) = true := decide_eq_true c11
      have c11b1 : decide (0 < l1_0.length) = true := decide_eq_true (by omega)
      clear c11
      have H' := Aside0.mk H
      clear H
      try go_wp2
      replace BK455 := Aside0.mk (blk_drew BK455.out)
      replace BK456 := Aside0.mk (blk_drew BK456.out)
      replace HB := Aside0.mk (below_drew1 HB.out)
      have p459 : 0 ≤ (0 : Int) := (by omega)
      have q459 : 0 < (l0_0.length : Int) := of_decide_eq_true (by first | (with_reducible assumption) | assumption)
      obtain ⟨ad459, A459_0, c459_0, e459, hx459_0, hl459_0, hi459_0⟩ := at_L1 HR0_0.out 0 p459 q459
      have hw459_0 := hx459_0
      (try rw [show ((0 : Int)).toNat = 0 from rfl] at hw459_0)
      (try rw [show 0 * 1 = 0 from rfl] at hw459_0)
      (try rw [Addr.add_zero'] at hw459_0)
      cases e459
      have qi459 : (0 < l0_0.length) = True := eq_true (by omega)
      (try rw [show ((0 : Int)).toNat = 0 from rfl] at hx459_0)
      (try rw [Addr.add_zero'] at hx459_0)
      replace hx459_0 := (HB.out.cell (World.block_lt_of_cell? w _ hx459_0)).trans hx459_0
      have HR459_0 := Aside0.mk hi459_0
      have HC459_0 := Aside0.mk hl459_0
      clear hi459_0 hl459_0
      replace p459 := eq_true p459
      replace q459 := eq_true q459
      have p460 : 0 ≤ (0 : Int) := (by omega)
      have q460 : 0 < (l1_0.length : Int) := of_decide_eq_true (by first | (with_reducible assumption) | assumption)
      obtain ⟨ad460, A460_0, c460_0, e460, hx460_0, hl460_0, hi460_0⟩ := at_L1 HR1_0.out 0 p460 q460
      have hw460_0 := hx460_0
      (try rw [show ((0 : Int)).toNat = 0 from rfl] at hw460_0)
      (try rw [show 0 * 1 = 0 from rfl] at hw460_0)
      (try rw [Addr.add_zero'] at hw460_0)
      cases e460
      have qi460 : (0 < l1_0.length) = True := eq_true (by omega)
      (try rw [show ((0 : Int)).toNat = 0 from rfl] at hx460_0)
      (try rw [Addr.add_zero'] at hx460_0)
      replace hx460_0 := (HB.out.cell (World.block_lt_of_cell? w _ hx460_0)).trans hx460_0
      have HR460_0 := Aside0.mk hi460_0
      have HC460_0 := Aside0.mk hl460_0
      clear hi460_0 hl460_0
      replace p460 := eq_true p460
      replace q460 := eq_true q460
      refine start_ (n := 21) (S := fun w' => w'.cell? ⟨gb455, 0, none⟩ = some (.slice (some ad459) l0_0.length c0_0) ∧ w'.cell? ⟨gb456, 0, none⟩ = some (.slice (some ad460) l1_0.length c1_0) ∧ w'.cell? ad459 = some (.slice A459_0 (rd_L1 l0_0 0).length c459_0) ∧ w'.cell? ad460 = some (.slice A460_0 (rd_L1 l1_0 0).length c460_0)) (ds := []) (Array.replicate 21 false) (by kernel_rfl) rfl rfl ⟨(blk_cell BK455.out 0).trans rfl, (blk_cell BK456.out 0).trans rfl, ((HB.out.cell (World.block_lt_of_cell? w _ hw459_0)).trans hw459_0), ((HB.out.cell (World.block_lt_of_cell? w _ hw460_0)).trans hw460_0)⟩ (fun hHeld => ?_); refine with_tabW plinthref25_Diff.tab1 plinthref25_Diff.bits1 (fun HT_ HW_ => ?_)
      generalize w5.drew = w12 at BK455 BK456 HB HR459_0 HR460_0 hx459_0 hx460_0 hHeld ⊢
      refine tM 0 15 HT_.out HW_.out hHeld ?_
      refine oM 1 16 HT_.out (fun K hK => ?_)
      refine gM Try.func33 #[.agg #[.slice (some ad459) l0_0.length c0_0]] ?_
      with_reducible refine (plinthref25_Check.calls k _ _ l0_0 t457 _ ?side1 ?side2 A6.out).mono ?_
      (case side1 => exact upC ((Kd.C_below HR0_0.out HB.out)))
      (case side2 => exact HC0_0.out)
      rintro e w13 ⟨rfl, hb⟩
      refine ⟨_, rfl, ?_⟩
      replace BK455 := Aside0.mk (blk_below (upK BK455.out) hb)
      replace BK456 := Aside0.mk (blk_below (upK BK456.out) hb)
      replace HB := Aside0.mk (below_step (upB2 HB.out GE455.out GE456.out) hb)
      (try clear hb); (try clear hb2); (try clear hk); (try clear hi)
      refine hK.out _ _ ⟨(blk_cell BK455.out 0).trans rfl, (blk_cell BK456.out 0).trans rfl, ((HB.out.cell (World.block_lt_of_cell? w _ hw459_0)).trans hw459_0), ((HB.out.cell (World.block_lt_of_cell? w _ hw460_0)).trans hw460_0)⟩ (fun hHeld => ?_)
      clear hK K
      refine nM 16 ?_; refine pM 2 17 HT_.out ?_; refine pM 3 18 HT_.out ?_; refine tM 4 19 HT_.out HW_.out hHeld ?_
      refine oM 5 20 HT_.out (fun K hK => ?_)
      refine gM Try.func33 #[.agg #[.slice (some ad460) l1_0.length c1_0]] ?_
      with_reducible refine (plinthref25_Check.calls k _ _ l1_0 t458 _ ?side1 ?side2 A8.out).mono ?_
      (case side1 => exact upC ((Kd.C_below HR1_0.out HB.out)))
      (case side2 => exact HC1_0.out)
      rintro e w14 ⟨rfl, hb⟩
      refine ⟨_, rfl, ?_⟩
      replace BK455 := Aside0.mk (blk_below (upK BK455.out) hb)
      replace BK456 := Aside0.mk (blk_below (upK BK456.out) hb)
      replace HB := Aside0.mk (below_step (upB2 HB.out GE455.out GE456.out) hb)
      (try clear hb); (try clear hb2); (try clear hk); (try clear hi)
      refine hK.out _ _ ⟨(blk_cell BK455.out 0).trans rfl, (blk_cell BK456.out 0).trans rfl, ((HB.out.cell (World.block_lt_of_cell? w _ hw459_0)).trans hw459_0), ((HB.out.cell (World.block_lt_of_cell? w _ hw460_0)).trans hw460_0)⟩ (fun hHeld => ?_)
      clear hK K
      refine nM 20 ?_; refine pM 6 21 HT_.out ?_; refine pM 7 22 HT_.out ?_; refine pM 8 23 HT_.out ?_; refine pM 9 24 HT_.out ?_; refine pM 14 29 HT_.out ?_; refine tM 10 25 HT_.out HW_.out hHeld ?_; refine pM 11 26 HT_.out ?_; refine tM 12 27 HT_.out HW_.out hHeld ?_; refine pM 13 28 HT_.out ?_; refine tM 15 30 HT_.out HW_.out hHeld ?_; refine pM 16 31 HT_.out ?_; refine tM 17 32 HT_.out HW_.out hHeld ?_; refine pM 18 33 HT_.out ?_; refine pM 19 34 HT_.out ?_; refine pM 20 35 HT_.out ?_
      refine done_ (done_of HT_.out (by kernel_rfl)) ?_
      try go_wp2
      go_meet
      case rel => exact ⟨_, ((((rd_L1 l0_0 0).length : Int) != ((rd_L1 l1_0 0).length : Int))), (by first | rfl | (simp; done) | (simp [*]; done)), H', ⟨by first | omega | exact Nat.le_refl _⟩, ⟨by refine upK ?_; exact BK455.out⟩, ⟨by refine upK ?_; exact BK456.out⟩, ⟨upB2 HB.out GE455.out GE456.out⟩⟩
     ·rw [if_neg c11] at H
      exact absurd H (by simp)
    ·rw [if_neg c10] at H
     exact absurd H (by simp)
   ·rw [if_neg c9] at H
    have c9b0 : (t458 == 0) = false := beq_eq_false_iff_ne.mpr c9
    have c9b1 : (t458 != 0) = true := bne_iff_ne.mpr c9
    have H' := Aside0.mk H
    clear H
    try go_wp2
    replace BK455 := Aside0.mk (blk_drew BK455.out)
    replace BK456 := Aside0.mk (blk_drew BK456.out)
    replace HB := Aside0.mk (below_drew1 HB.out)
    refine start_ (n := 21) (S := fun w' => w'.cell? ⟨gb455, 0, none⟩ = some (.slice A0_0 l0_0.length c0_0) ∧ w'.cell? ⟨gb456, 0, none⟩ = some (.slice A1_0 l1_0.length c1_0)) (ds := []) (Array.replicate 21 false) (by kernel_rfl) rfl rfl ⟨(blk_cell BK455.out 0).trans rfl, (blk_cell BK456.out 0).trans rfl⟩ (fun hHeld => ?_); refine with_tabW plinthref25_Diff.tab1 plinthref25_Diff.bits1 (fun HT_ HW_ => ?_)
    generalize w5.drew = w15 at BK455 BK456 HB hHeld ⊢
    refine tM 0 15 HT_.out HW_.out hHeld ?_
    refine oM 1 16 HT_.out (fun K hK => ?_)
    refine gM Try.func33 #[.agg #[.slice A0_0 l0_0.length c0_0]] ?_
    with_reducible refine (plinthref25_Check.calls k _ _ l0_0 t457 _ ?side1 ?side2 A6.out).mono ?_
    (case side1 => exact upC ((Kd.C_below HR0_0.out HB.out)))
    (case side2 => exact HC0_0.out)
    rintro e w16 ⟨rfl, hb⟩
    refine ⟨_, rfl, ?_⟩
    replace BK455 := Aside0.mk (blk_below (upK BK455.out) hb)
    replace BK456 := Aside0.mk (blk_below (upK BK456.out) hb)
    replace HB := Aside0.mk (below_step (upB2 HB.out GE455.out GE456.out) hb)
    (try clear hb); (try clear hb2); (try clear hk); (try clear hi)
    refine hK.out _ _ ⟨(blk_cell BK455.out 0).trans rfl, (blk_cell BK456.out 0).trans rfl⟩ (fun hHeld => ?_)
    clear hK K
    refine nM 16 ?_; refine pM 2 17 HT_.out ?_; refine pM 3 18 HT_.out ?_; refine tM 4 19 HT_.out HW_.out hHeld ?_
    refine oM 5 20 HT_.out (fun K hK => ?_)
    refine gM Try.func33 #[.agg #[.slice A1_0 l1_0.length c1_0]] ?_
    with_reducible refine (plinthref25_Check.calls k _ _ l1_0 t458 _ ?side1 ?side2 A8.out).mono ?_
    (case side1 => exact upC ((Kd.C_below HR1_0.out HB.out)))
    (case side2 => exact HC1_0.out)
    rintro e w17 ⟨rfl, hb⟩
    refine ⟨_, rfl, ?_⟩
    replace BK455 := Aside0.mk (blk_below (upK BK455.out) hb)
    replace BK456 := Aside0.mk (blk_below (upK BK456.out) hb)
    replace HB := Aside0.mk (below_step (upB2 HB.out GE455.out GE456.out) hb)
    (try clear hb); (try clear hb2); (try clear hk); (try clear hi)
    refine hK.out _ _ ⟨(blk_cell BK455.out 0).trans rfl, (blk_cell BK456.out 0).trans rfl⟩ (fun hHeld => ?_)
    clear hK K
    refine nM 20 ?_; refine pM 6 21 HT_.out ?_; refine pM 7 22 HT_.out ?_; refine pM 8 23 HT_.out ?_; refine uM 9 24 HT_.out ?_; refine uM 10 25 HT_.out ?_; refine uM 11 26 HT_.out ?_; refine uM 12 27 HT_.out ?_; refine uM 13 28 HT_.out ?_; refine uM 14 29 HT_.out ?_; refine uM 15 30 HT_.out ?_; refine uM 16 31 HT_.out ?_; refine uM 17 32 HT_.out ?_; refine uM 18 33 HT_.out ?_; refine uM 19 34 HT_.out ?_; refine pM 20 35 HT_.out ?_
    refine done_ (done_of HT_.out (by kernel_rfl)) ?_
    try go_wp2
    go_meet
    case rel => exact ⟨_, (true), (by first | rfl | (simp; done) | (simp [*]; done)), H', ⟨by first | omega | exact Nat.le_refl _⟩, ⟨by refine upK ?_; exact BK455.out⟩, ⟨by refine upK ?_; exact BK456.out⟩, ⟨upB2 HB.out GE455.out GE456.out⟩⟩
  ·rw [if_neg c7] at H
   have c7b0 : (t457 == 0) = false := beq_eq_false_iff_ne.mpr c7
   have c7b1 : (t457 != 0) = true := bne_iff_ne.mpr c7
   (first | rw [c7b0] | (simp only [i64_w, i32_w]; rw [c7b0]) | skip)
   have H' := Aside0.mk H
   clear H
   try go_wp2
   replace BK455 := Aside0.mk (blk_drew BK455.out)
   replace BK456 := Aside0.mk (blk_drew BK456.out)
   replace HB := Aside0.mk (below_drew1 HB.out)
   refine start_ (n := 21) (S := fun w' => w'.cell? ⟨gb455, 0, none⟩ = some (.slice A0_0 l0_0.length c0_0)) (ds := []) (Array.replicate 21 false) (by kernel_rfl) rfl rfl ((blk_cell BK455.out 0).trans rfl) (fun hHeld => ?_); refine with_tabW plinthref25_Diff.tab1 plinthref25_Diff.bits1 (fun HT_ HW_ => ?_)
   generalize w5.drew = w18 at BK455 BK456 HB hHeld ⊢
   refine take_ (i := 0) (N := some 15) (v := ?_) (a' := ?_) #[true, false, false, false, false, false, false, false, false, false, false, false, false, false, false, false, false, false, false, false, false] rfl rfl (take_ofW HT_.out HW_.out (by kernel_rfl)) (fun _ _ _ h => h) (Or.inl ⟨by rfl, ?_⟩) hHeld ?_ ?_
   rotate_left
   ·intro w' s0
    go_simp
    with_reducible rfl
   rotate_left
   ·simp only [Act.put, List.setIfInBounds_toArray, List.set_cons_zero, List.set_cons_succ, i64_w, i32_w]
    rfl
   refine oM 1 16 HT_.out (fun K hK => ?_)
   refine gM Try.func33 #[.agg #[.slice A0_0 l0_0.length c0_0]] ?_
   with_reducible refine (plinthref25_Check.calls k _ _ l0_0 t457 _ ?side1 ?side2 A6.out).mono ?_
   (case side1 => exact upC ((Kd.C_below HR0_0.out HB.out)))
   (case side2 => exact HC0_0.out)
   rintro e w19 ⟨rfl, hb⟩
   refine ⟨_, rfl, ?_⟩
   replace BK455 := Aside0.mk (blk_below (upK BK455.out) hb)
   replace BK456 := Aside0.mk (blk_below (upK BK456.out) hb)
   replace HB := Aside0.mk (below_step (upB2 HB.out GE455.out GE456.out) hb)
   (try clear hb); (try clear hb2); (try clear hk); (try clear hi)
   refine hK.out _ _ ((blk_cell BK455.out 0).trans rfl) (fun hHeld => ?_)
   clear hK K
   refine nM 16 ?_; refine pM 2 17 HT_.out ?_; refine pM 3 18 HT_.out ?_; refine uM 4 19 HT_.out ?_; refine uM 5 20 HT_.out ?_; refine uM 6 21 HT_.out ?_; refine pM 7 22 HT_.out ?_; refine pM 8 23 HT_.out ?_; refine uM 9 24 HT_.out ?_; refine uM 10 25 HT_.out ?_; refine uM 11 26 HT_.out ?_; refine uM 12 27 HT_.out ?_; refine uM 13 28 HT_.out ?_; refine uM 14 29 HT_.out ?_; refine uM 15 30 HT_.out ?_; refine uM 16 31 HT_.out ?_; refine uM 17 32 HT_.out ?_; refine uM 18 33 HT_.out ?_; refine uM 19 34 HT_.out ?_; refine pM 20 35 HT_.out ?_
   refine done_ (done_of HT_.out (by kernel_rfl)) ?_
   try go_wp2
   go_meet
   case rel => exact ⟨_, (true), (by first | rfl | (simp; done) | (simp [*]; done)), H', ⟨by first | omega | exact Nat.le_refl _⟩, ⟨by refine upK ?_; exact BK455.out⟩, ⟨by refine upK ?_; exact BK456.out⟩, ⟨upB2 HB.out GE455.out GE456.out⟩⟩
 case rest =>
  clear HC3
  (try clear c1); (try clear p2); (try clear c3); (try clear c4); (try clear p4); (try clear q4); (try clear hx4); (try clear qi4); (try clear c7); (try clear c7b0); (try clear c7b1); (try clear c9); (try clear c9b0); (try clear c9b1); (try clear c10); (try clear c11); (try clear hx459_0); (try clear hx460_0); (try clear p459); (try clear p460); (try clear q459); (try clear q460)
  obtain ⟨kq, x35_2, rfl, HA, HJ2, BK455, BK456, HB⟩ := hcut
  cases kq with
  | zero => exact absurd HA.out (by simp [plinthref25_Diff.j0])
  | succ kj2 =>
   have H := HA.out
   clear HA
   simp only [plinthref25_Diff.j0] at H
   by_cases c20 : x35_2 = true
   ·subst c20
    have H1 : (some (([] : List Int), 0, 250)) = some (r1, r2, r3) := by rw [if_pos rfl] at H; exact H
    clear H
    have H := H1
    clear H1
    simp only [Option.some.injEq, Prod.mk.injEq] at H
    obtain ⟨rfl, rfl, rfl⟩ := H
    go_wp2
    go_ret3
    exact ⟨_, by first | rfl | (simp [errW_none, errW_some] <;> rfl) | (simp [*, errW_none, errW_some] <;> rfl), by first | exact Kd.R_nil _ _ _ _ _ | exact Kd.N_nil _ _ _ _ _ | exact Kd.V_nil _ _ _ _ _ | exact Kd.Q_nil _ _ _ _ _ | exact Kd.S_nil _ _ _ _ _, upB2 HB.out GE455.out GE456.out⟩
   ·replace c20 := Bool.eq_false_iff.mpr c20
    subst c20
    have H1 : (plinthref25_Diff.l0 kj2 (([0] : List Int)) 0 (wrap64 ((l0_0.length : Int) - 1)) l0_0 l1_0) = some (r1, r2, r3) := by rw [if_neg (show ¬ (false = true) by decide)] at H; exact H
    clear H
    have H := H1
    clear H1
    obtain ⟨y461, hy461⟩ : ∃ y_ : List Int, y_ = (([0] : List Int)) := ⟨_, rfl⟩
    replace H : (plinthref25_Diff.l0 kj2 y461 0 (wrap64 ((l0_0.length : Int) - 1)) l0_0 l1_0) = some (r1, r2, r3) := by first | (rw [hy461]; with_reducible exact H) | (have H2_ := (Option.bind_some _ _).symm.trans H; rw [hy461]; with_reducible exact H2_) | (have H2_ := (Option.bind_some _ _).symm.trans H; with_reducible exact H2_) | with_reducible exact H | (rw [hy461]; exact H) | exact H
    have Ny461 := Aside0.mk hy461
    clear hy461
    have H' := Aside0.mk H
    clear H
    go_wp2_with (first | ((with_reducible refine gate_dst (N := 36) rfl ?_); (try (refine gate_guard (by rfl) ?_; dsimp only)); refine Kd.R_lit (Kd.int .i64) _ 3 ?hg (N := 36) ?hd (xs := ([0] : List Int)) (inner := [.int .i64 0]) (ok := fun _ => True) (okp := fun _ => True) ?hr ?hp (fun _ hk => hk) trivial (Below.refl _ _) (Nat.le_refl _) (by simp) ?_; (case hd => rfl); (case hg => rfl); (case hr => first | (go_simp; done) | (go_simp; rfl)); (case hp => exact (Reps.one (show Kd.M (Kd.int .i64) _ _ _ 0 [.int .i64 0] from rfl) (Reps.none _ _))); intro v462 w21 ho22 hb hg_ hnew_; clear hg_ hnew_; (first | rw [← Ny461.out] at ho22 | (simp only [Int.reduceToNat] at ho22; rw [← Ny461.out] at ho22)); have HO463 := Aside0.mk (Kd.R_lower ho22 (below_size (upB2 HB.out GE455.out GE456.out))); replace BK455 := Aside0.mk (blk_below (upK BK455.out) hb); replace BK456 := Aside0.mk (blk_below (upK BK456.out) hb); replace HB := Aside0.mk (below_step (upB2 HB.out GE455.out GE456.out) hb); clear hb ho22; have hnb23 := NB455_456.out; have hnc23 := NB456_455.out; obtain ⟨hcz24_0, hfz24_0⟩ := cells1 BK455.out))
    go_loopg [7, 8, 9] kj2 (fun kq v7 v8 v9 w' => ∃ (x7_2 : List Int) (x8_2 : Int) (x9_2 : Int), v8 = .int .i64 x8_2 ∧ v9 = .int .i64 x9_2 ∧ Aside0 (plinthref25_Diff.l0 kq x7_2 x8_2 x9_2 l0_0 l1_0 = some (r1, r2, r3)) ∧ Aside0 (kq ≤ kj2) ∧ Aside0 (Kd.R (Kd.int .i64) 3 w' w.heap.size (fun _ => True) v7 x7_2) ∧ Aside0 (w'.heap[gb455]? = some (.cells #[(.slice A0_0 l0_0.length c0_0)] 24 (0, 0))) ∧ Aside0 (w'.heap[gb456]? = some (.cells #[(.slice A1_0 l1_0.length c1_0)] 24 (0, 0))) ∧ Aside0 (Below w.heap.size w w'))
    case atStart => exact ⟨(y461), (0), (wrap64 ((l0_0.length : Int) - 1)), (by first | rfl | (simp; done) | (simp [*]; done)), (by first | rfl | (simp; done) | (simp [*]; done)), H', ⟨Nat.le_refl _⟩, ⟨by refine upR ?_; exact HO463.out⟩, ⟨by refine upK ?_; exact BK455.out⟩, ⟨by refine upK ?_; exact BK456.out⟩, ⟨upB2 HB.out GE455.out GE456.out⟩⟩
    case round =>
     clear H'
     (try clear c1); (try clear c2); (try clear p2); (try clear c3); (try clear c4); (try clear p4); (try clear q4); (try clear hx4); (try clear qi4); (try clear p6); (try clear c7); (try clear c7b0); (try clear c7b1); (try clear c9); (try clear c9b0); (try clear c9b1); (try clear c10); (try clear c11); (try clear c20); (try clear c23); (try clear hcz24_0); (try clear hfz24_0); (try clear hx459_0); (try clear hx460_0); (try clear p2); (try clear p4); (try clear p459); (try clear p460); (try clear q4); (try clear q459); (try clear q460)
     obtain ⟨x7_2, x8_2, x9_2, rfl, rfl, HA, HK2, HO_7, BK455, BK456, HB⟩ := hrel
     cases gk with
     | zero => exact absurd HA.out (by simp [plinthref25_Diff.l0])
     | succ k2 =>
      have H := HA.out
      clear HA
      simp only [plinthref25_Diff.l0] at H
      by_cases c25 : x9_2 ≥ 0
      ·rw [if_pos c25] at H
       have c25b0 : decide (0 ≤ x9_2) = true := decide_eq_true c25
       clear c25
       have H' := Aside0.mk H
       clear H
       go_wp2
       go_loopg [8, 10, 11] k2 (fun kq v8 v10 v11 w' => ∃ (x8_3 : Int) (x10_3 : List Int) (x11_3 : Int), v8 = .int .i64 x8_3 ∧ v11 = .int .i64 x11_3 ∧ Aside0 (plinthref25_Diff.l1 kq x7_2 x8_3 x9_2 x10_3 x11_3 l0_0 l1_0 = some (r1, r2, r3)) ∧ Aside0 (kq ≤ k2) ∧ Aside0 (Kd.R (Kd.int .i64) 3 w' w.heap.size (fun k_ => some k_ ≠ (v10 : Value).ownBlock) u7 x7_2) ∧ Aside0 (Kd.R (Kd.int .i64) 3 w' w.heap.size (fun k_ => some k_ ≠ (u7 : Value).ownBlock) v10 x10_3) ∧ Aside0 (w'.heap[gb455]? = some (.cells #[(.slice A0_0 l0_0.length c0_0)] 24 (0, 0))) ∧ Aside0 (w'.heap[gb456]? = some (.cells #[(.slice A1_0 l1_0.length c1_0)] 24 (0, 0))) ∧ Aside0 (Below w.heap.size w w'))
       case atStart => exact ⟨(x8_2), (([] : List Int)), (0), (by first | rfl | (simp; done) | (simp [*]; done)), (by first | rfl | (simp; done) | (simp [*]; done)), H', ⟨Nat.le_refl _⟩, ⟨by refine upR ?_; exact Kd.R_mono HO_7.out (fun _ hk => (by simp [Value.ownBlock]))⟩, ⟨by first | exact Kd.R_nil _ _ _ _ _ | exact Kd.N_nil _ _ _ _ _ | exact Kd.V_nil _ _ _ _ _ | exact Kd.Q_nil _ _ _ _ _ | exact Kd.S_nil _ _ _ _ _⟩, ⟨by refine upK ?_; exact BK455.out⟩, ⟨by refine upK ?_; exact BK456.out⟩, ⟨upB2 HB.out GE455.out GE456.out⟩⟩
       case round =>
        clear H'
        (try clear c1); (try clear c2); (try clear p2); (try clear c3); (try clear c4); (try clear p4); (try clear q4); (try clear hx4); (try clear qi4); (try clear p6); (try clear c7); (try clear c7b0); (try clear c7b1); (try clear c9); (try clear c9b0); (try clear c9b1); (try clear c10); (try clear c11); (try clear c20); (try clear c23); (try clear c25); (try clear c25b0); (try clear hcz24_0); (try clear hfz24_0); (try clear hx459_0); (try clear hx460_0); (try clear p2); (try clear p4); (try clear p459); (try clear p460); (try clear p6); (try clear q4); (try clear q459); (try clear q460)
        obtain ⟨x8_3, x10_3, x11_3, rfl, rfl, HA, HK3, HO_7, HO_10, BK455, BK456, HB⟩ := hrel
        cases gk with
        | zero => exact absurd HA.out (by simp [plinthref25_Diff.l1])
        | succ k3 =>
         have H := HA.out
         clear HA
         simp only [plinthref25_Diff.l1] at H
         by_cases c26 : x11_3 < (x7_2.length : Int)
         ·rw [if_pos c26] at H
          have c26b0 : decide (x11_3 < (x7_2.length : Int)) = true := decide_eq_true c26
          clear c26
          by_cases c27 : 0 ≤ x9_2
          ·rw [if_pos c27] at H
           have c27b0 : decide (0 ≤ x9_2) = true := decide_eq_true c27
           clear c27
           by_cases c28 : x9_2 < (l0_0.length : Int)
           ·rw [if_pos c28] at H
            have c28b0 : decide (x9_2 < (l0_0.length : Int)) = true := decide_eq_true c28
            clear c28
            by_cases c29 : 0 ≤ x11_3
            ·rw [if_pos c29] at H
             have c29b0 : decide (0 ≤ x11_3) = true := decide_eq_true c29
             clear c29
             by_cases c30 : 0 ≤ (rd x7_2 x11_3)
             ·rw [if_pos c30] at H
              have c30b0 : decide (0 ≤ (rd x7_2 x11_3)) = true := decide_eq_true c30
              clear c30
              by_cases c31 : (rd x7_2 x11_3) < ((rd_L1 l0_0 x9_2).length : Int)
              ·rw [if_pos c31] at H
               have c31b0 : decide ((rd x7_2 x11_3) < ((rd_L1 l0_0 x9_2).length : Int)) = true := decide_eq_true c31
               clear c31
               by_cases c32 : x9_2 < (l1_0.length : Int)
               ·rw [if_pos c32] at H
                have c32b0 : decide (x9_2 < (l1_0.length : Int)) = true := decide_eq_true c32
                clear c32
                by_cases c33 : (rd x7_2 x11_3) < ((rd_L1 l1_0 x9_2).length : Int)
                ·rw [if_pos c33] at H
                 have c33b0 : decide ((rd x7_2 x11_3) < ((rd_L1 l1_0 x9_2).length : Int)) = true := decide_eq_true c33
                 clear c33
                 by_cases c34 : (rd (rd_L1 l0_0 x9_2) (rd x7_2 x11_3)) = (rd (rd_L1 l1_0 x9_2) (rd x7_2 x11_3))
                 ·rw [if_pos c34] at H
                  have c34b0 : ((rd (rd_L1 l0_0 x9_2) (rd x7_2 x11_3)) == (rd (rd_L1 l1_0 x9_2) (rd x7_2 x11_3))) = true := beq_iff_eq.mpr c34
                  have c34b1 : ((rd (rd_L1 l0_0 x9_2) (rd x7_2 x11_3)) != (rd (rd_L1 l1_0 x9_2) (rd x7_2 x11_3))) = false := bne_eq_false_iff_eq.mpr c34
                  clear c34
                  have H' := Aside0.mk H
                  clear H
                  obtain ⟨Ao35, co35, eo35⟩ := Kd.R_slice HO_7.out
                  subst eo35
                  try go_wp2
                  replace HO_7 := Aside0.mk (Kd.R_drew HO_7.out)
                  replace HO_10 := Aside0.mk (Kd.R_drew HO_10.out)
                  replace BK455 := Aside0.mk (blk_drew BK455.out)
                  replace BK456 := Aside0.mk (blk_drew BK456.out)
                  replace HB := Aside0.mk (below_drew1 HB.out)
                  have p464 : 0 ≤ (x9_2 : Int) := of_decide_eq_true (by first | (with_reducible assumption) | assumption)
                  have q464 : x9_2 < (l0_0.length : Int) := of_decide_eq_true (by first | (with_reducible assumption) | assumption)
                  obtain ⟨ad464, A464_0, c464_0, e464, hx464_0, hl464_0, hi464_0⟩ := at_L1 HR0_0.out x9_2 p464 q464
                  have hw464_0 := hx464_0
                  cases e464
                  replace hx464_0 := (HB.out.cell (World.block_lt_of_cell? w _ hx464_0)).trans hx464_0
                  have HR464_0 := Aside0.mk hi464_0
                  have HC464_0 := Aside0.mk hl464_0
                  clear hi464_0 hl464_0
                  replace p464 := eq_true p464
                  replace q464 := eq_true q464
                  have p465 : 0 ≤ (x11_3 : Int) := of_decide_eq_true (by first | (with_reducible assumption) | assumption)
                  have q465 : x11_3 < (x7_2.length : Int) := of_decide_eq_true (by first | (with_reducible assumption) | assumption)
                  obtain ⟨ad465, e465, hx465_0⟩ := Kd.at_int (Kd.R_reads' HO_7.out).2.2 x11_3 p465 q465
                  cases e465
                  replace p465 := eq_true p465
                  replace q465 := eq_true q465
                  have p466 : 0 ≤ ((rd x7_2 x11_3) : Int) := of_decide_eq_true (by first | (with_reducible assumption) | assumption)
                  have q466 : (rd x7_2 x11_3) < ((rd_L1 l0_0 x9_2).length : Int) := of_decide_eq_true (by first | (with_reducible assumption) | assumption)
                  obtain ⟨ad466, e466, hx466_0⟩ := Kd.at_int HR464_0.out (rd x7_2 x11_3) p466 q466
                  have hw466_0 := hx466_0
                  cases e466
                  replace hx466_0 := (HB.out.cell (World.block_lt_of_cell? w _ hx466_0)).trans hx466_0
                  replace p466 := eq_true p466
                  replace q466 := eq_true q466
                  have p467 : 0 ≤ (x9_2 : Int) := of_decide_eq_true (by first | (with_reducible assumption) | assumption)
                  have q467 : x9_2 < (l1_0.length : Int) := of_decide_eq_true (by first | (with_reducible assumption) | assumption)
                  obtain ⟨ad467, A467_0, c467_0, e467, hx467_0, hl467_0, hi467_0⟩ := at_L1 HR1_0.out x9_2 p467 q467
                  have hw467_0 := hx467_0
                  cases e467
                  replace hx467_0 := (HB.out.cell (World.block_lt_of_cell? w _ hx467_0)).trans hx467_0
                  have HR467_0 := Aside0.mk hi467_0
                  have HC467_0 := Aside0.mk hl467_0
                  clear hi467_0 hl467_0
                  replace p467 := eq_true p467
                  replace q467 := eq_true q467
                  have p468 : 0 ≤ (x11_3 : Int) := of_decide_eq_true (by first | (with_reducible assumption) | assumption)
                  have q468 : x11_3 < (x7_2.length : Int) := of_decide_eq_true (by first | (with_reducible assumption) | assumption)
                  obtain ⟨ad468, e468, hx468_0⟩ := Kd.at_int (Kd.R_reads' HO_7.out).2.2 x11_3 p468 q468
                  obtain rfl : ad465 = ad468 := (by injection e468)
                  replace p468 := eq_true p468
                  replace q468 := eq_true q468
                  have p469 : 0 ≤ ((rd x7_2 x11_3) : Int) := of_decide_eq_true (by first | (with_reducible assumption) | assumption)
                  have q469 : (rd x7_2 x11_3) < ((rd_L1 l1_0 x9_2).length : Int) := of_decide_eq_true (by first | (with_reducible assumption) | assumption)
                  obtain ⟨ad469, e469, hx469_0⟩ := Kd.at_int HR467_0.out (rd x7_2 x11_3) p469 q469
                  have hw469_0 := hx469_0
                  cases e469
                  replace hx469_0 := (HB.out.cell (World.block_lt_of_cell? w _ hx469_0)).trans hx469_0
                  replace p469 := eq_true p469
                  replace q469 := eq_true q469
                  refine start_ (n := 23) (S := fun w' => w'.cell? ⟨gb455, 0, none⟩ = some (.slice (some ad464) l0_0.length c0_0) ∧ w'.cell? ⟨gb456, 0, none⟩ = some (.slice (some ad467) l1_0.length c1_0) ∧ w'.cell? (ad464.add (x9_2).toNat) = some (.slice (some ad466) (rd_L1 l0_0 x9_2).length c464_0) ∧ w'.cell? (ad465.add (x11_3).toNat) = some (.int .i64 (rd x7_2 x11_3)) ∧ w'.cell? (ad466.add ((rd x7_2 x11_3)).toNat) = some (.int .u32 (rd (rd_L1 l0_0 x9_2) (rd x7_2 x11_3))) ∧ w'.cell? (ad467.add (x9_2).toNat) = some (.slice (some ad469) (rd_L1 l1_0 x9_2).length c467_0) ∧ w'.cell? (ad465.add (x11_3).toNat) = some (.int .i64 (rd x7_2 x11_3)) ∧ w'.cell? (ad469.add ((rd x7_2 x11_3)).toNat) = some (.int .u32 (rd (rd_L1 l1_0 x9_2) (rd x7_2 x11_3)))) (ds := []) (Array.replicate 23 false) (by kernel_rfl) rfl rfl ⟨(blk_cell BK455.out 0).trans rfl, (blk_cell BK456.out 0).trans rfl, ((HB.out.cell (World.block_lt_of_cell? w _ hw464_0)).trans hw464_0), hx465_0, ((HB.out.cell (World.block_lt_of_cell? w _ hw466_0)).trans hw466_0), ((HB.out.cell (World.block_lt_of_cell? w _ hw467_0)).trans hw467_0), hx468_0, ((HB.out.cell (World.block_lt_of_cell? w _ hw469_0)).trans hw469_0)⟩ (fun hHeld => ?_); refine with_tabW plinthref25_Diff.tab13 plinthref25_Diff.bits13 (fun HT_ HW_ => ?_)
                  generalize wr.drew = w36 at HO_7 HO_10 BK455 BK456 HB HR464_0 HR467_0 hx464_0 hx465_0 hx466_0 hx467_0 hx468_0 hx469_0 hHeld ⊢
                  refine pM 0 53 HT_.out ?_; refine pM 2 55 HT_.out ?_; refine pM 5 58 HT_.out ?_; refine pM 6 59 HT_.out ?_; refine pM 7 60 HT_.out ?_; refine pM 11 64 HT_.out ?_; refine pM 13 66 HT_.out ?_; refine pM 16 69 HT_.out ?_; refine pM 17 70 HT_.out ?_; refine pM 18 71 HT_.out ?_; refine tM 1 54 HT_.out HW_.out hHeld ?_; refine pM 3 56 HT_.out ?_; refine tM 4 57 HT_.out HW_.out hHeld ?_; refine tM 8 61 HT_.out HW_.out hHeld ?_; refine pM 9 62 HT_.out ?_; refine tM 10 63 HT_.out HW_.out hHeld ?_; refine tM 12 65 HT_.out HW_.out hHeld ?_; refine pM 14 67 HT_.out ?_; refine tM 15 68 HT_.out HW_.out hHeld ?_; refine tM 19 72 HT_.out HW_.out hHeld ?_; refine pM 20 73 HT_.out ?_; refine tM 21 74 HT_.out HW_.out hHeld ?_; refine pM 22 75 HT_.out ?_
                  refine done_ (done_of HT_.out (by kernel_rfl)) ?_
                  try go_wp2
                  go_roundg k3
                  case measure => have := HJ2.out; have := HK2.out; have := HK3.out; omega
                  case rel => exact ⟨(wrap64 (x8_3 + 1)), (x10_3), (wrap64 (x11_3 + 1)), (by first | rfl | (simp; done) | (simp [*]; done)), (by first | rfl | (simp; done) | (simp [*]; done)), H', ⟨by have := HJ2.out; have := HK2.out; have := HK3.out; omega⟩, ⟨by refine upR ?_; exact HO_7.out⟩, ⟨by refine upR ?_; exact HO_10.out⟩, ⟨by refine upK ?_; exact BK455.out⟩, ⟨by refine upK ?_; exact BK456.out⟩, ⟨upB2 HB.out GE455.out GE456.out⟩⟩
                 ·rw [if_neg c34] at H
                  have c34b0 : ((rd (rd_L1 l0_0 x9_2) (rd x7_2 x11_3)) == (rd (rd_L1 l1_0 x9_2) (rd x7_2 x11_3))) = false := beq_eq_false_iff_ne.mpr c34
                  have c34b1 : ((rd (rd_L1 l0_0 x9_2) (rd x7_2 x11_3)) != (rd (rd_L1 l1_0 x9_2) (rd x7_2 x11_3))) = true := bne_iff_ne.mpr c34
                  by_cases c37 : x10_3.length < 17592186044416
                  ·rw [if_pos c37] at H
                   have LMc37 := Aside0.mk c37
                   clear c37
                   obtain ⟨y471, hy471⟩ : ∃ y_ : List Int, y_ = (x10_3 ++ [rd x7_2 x11_3]) := ⟨_, rfl⟩
                   replace H : (plinthref25_Diff.l1 k3 x7_2 (wrap64 (x8_3 + 1)) x9_2 y471 (wrap64 (x11_3 + 1)) l0_0 l1_0) = some (r1, r2, r3) := by first | (rw [hy471]; with_reducible exact H) | (have H2_ := (Option.bind_some _ _).symm.trans H; rw [hy471]; with_reducible exact H2_) | (have H2_ := (Option.bind_some _ _).symm.trans H; with_reducible exact H2_) | with_reducible exact H | (rw [hy471]; exact H) | exact H
                   have Ny471 := Aside0.mk hy471
                   clear hy471
                   have H' := Aside0.mk H
                   clear H
                   obtain ⟨Ao38, co38, eo38⟩ := Kd.R_slice HO_7.out
                   subst eo38
                   try go_wp2
                   replace HO_7 := Aside0.mk (Kd.R_drew HO_7.out)
                   replace HO_10 := Aside0.mk (Kd.R_drew HO_10.out)
                   replace BK455 := Aside0.mk (blk_drew BK455.out)
                   replace BK456 := Aside0.mk (blk_drew BK456.out)
                   replace HB := Aside0.mk (below_drew1 HB.out)
                   have p464 : 0 ≤ (x9_2 : Int) := of_decide_eq_true (by first | (with_reducible assumption) | assumption)
                   have q464 : x9_2 < (l0_0.length : Int) := of_decide_eq_true (by first | (with_reducible assumption) | assumption)
                   obtain ⟨ad464, A464_0, c464_0, e464, hx464_0, hl464_0, hi464_0⟩ := at_L1 HR0_0.out x9_2 p464 q464
                   have hw464_0 := hx464_0
                   cases e464
                   replace hx464_0 := (HB.out.cell (World.block_lt_of_cell? w _ hx464_0)).trans hx464_0
                   have HR464_0 := Aside0.mk hi464_0
                   have HC464_0 := Aside0.mk hl464_0
                   clear hi464_0 hl464_0
                   replace p464 := eq_true p464
                   replace q464 := eq_true q464
                   have p465 : 0 ≤ (x11_3 : Int) := of_decide_eq_true (by first | (with_reducible assumption) | assumption)
                   have q465 : x11_3 < (x7_2.length : Int) := of_decide_eq_true (by first | (with_reducible assumption) | assumption)
                   obtain ⟨ad465, e465, hx465_0⟩ := Kd.at_int (Kd.R_reads' HO_7.out).2.2 x11_3 p465 q465
                   cases e465
                   replace p465 := eq_true p465
                   replace q465 := eq_true q465
                   have p466 : 0 ≤ ((rd x7_2 x11_3) : Int) := of_decide_eq_true (by first | (with_reducible assumption) | assumption)
                   have q466 : (rd x7_2 x11_3) < ((rd_L1 l0_0 x9_2).length : Int) := of_decide_eq_true (by first | (with_reducible assumption) | assumption)
                   obtain ⟨ad466, e466, hx466_0⟩ := Kd.at_int HR464_0.out (rd x7_2 x11_3) p466 q466
                   have hw466_0 := hx466_0
                   cases e466
                   replace hx466_0 := (HB.out.cell (World.block_lt_of_cell? w _ hx466_0)).trans hx466_0
                   replace p466 := eq_true p466
                   replace q466 := eq_true q466
                   have p467 : 0 ≤ (x9_2 : Int) := of_decide_eq_true (by first | (with_reducible assumption) | assumption)
                   have q467 : x9_2 < (l1_0.length : Int) := of_decide_eq_true (by first | (with_reducible assumption) | assumption)
                   obtain ⟨ad467, A467_0, c467_0, e467, hx467_0, hl467_0, hi467_0⟩ := at_L1 HR1_0.out x9_2 p467 q467
                   have hw467_0 := hx467_0
                   cases e467
                   replace hx467_0 := (HB.out.cell (World.block_lt_of_cell? w _ hx467_0)).trans hx467_0
                   have HR467_0 := Aside0.mk hi467_0
                   have HC467_0 := Aside0.mk hl467_0
                   clear hi467_0 hl467_0
                   replace p467 := eq_true p467
                   replace q467 := eq_true q467
                   have p468 : 0 ≤ (x11_3 : Int) := of_decide_eq_true (by first | (with_reducible assumption) | assumption)
                   have q468 : x11_3 < (x7_2.length : Int) := of_decide_eq_true (by first | (with_reducible assumption) | assumption)
                   obtain ⟨ad468, e468, hx468_0⟩ := Kd.at_int (Kd.R_reads' HO_7.out).2.2 x11_3 p468 q468
                   obtain rfl : ad465 = ad468 := (by injection e468)
                   replace p468 := eq_true p468
                   replace q468 := eq_true q468
                   have p469 : 0 ≤ ((rd x7_2 x11_3) : Int) := of_decide_eq_true (by first | (with_reducible assumption) | assumption)
                   have q469 : (rd x7_2 x11_3) < ((rd_L1 l1_0 x9_2).length : Int) := of_decide_eq_true (by first | (with_reducible assumption) | assumption)
                   obtain ⟨ad469, e469, hx469_0⟩ := Kd.at_int HR467_0.out (rd x7_2 x11_3) p469 q469
                   have hw469_0 := hx469_0
                   cases e469
                   replace hx469_0 := (HB.out.cell (World.block_lt_of_cell? w _ hx469_0)).trans hx469_0
                   replace p469 := eq_true p469
                   replace q469 := eq_true q469
                   refine start_ (n := 23) (S := fun w' => w'.cell? ⟨gb455, 0, none⟩ = some (.slice (some ad464) l0_0.length c0_0) ∧ w'.cell? ⟨gb456, 0, none⟩ = some (.slice (some ad467) l1_0.length c1_0) ∧ w'.cell? (ad464.add (x9_2).toNat) = some (.slice (some ad466) (rd_L1 l0_0 x9_2).length c464_0) ∧ w'.cell? (ad465.add (x11_3).toNat) = some (.int .i64 (rd x7_2 x11_3)) ∧ w'.cell? (ad466.add ((rd x7_2 x11_3)).toNat) = some (.int .u32 (rd (rd_L1 l0_0 x9_2) (rd x7_2 x11_3))) ∧ w'.cell? (ad467.add (x9_2).toNat) = some (.slice (some ad469) (rd_L1 l1_0 x9_2).length c467_0) ∧ w'.cell? (ad465.add (x11_3).toNat) = some (.int .i64 (rd x7_2 x11_3)) ∧ w'.cell? (ad469.add ((rd x7_2 x11_3)).toNat) = some (.int .u32 (rd (rd_L1 l1_0 x9_2) (rd x7_2 x11_3)))) (ds := []) (Array.replicate 23 false) (by kernel_rfl) rfl rfl ⟨(blk_cell BK455.out 0).trans rfl, (blk_cell BK456.out 0).trans rfl, ((HB.out.cell (World.block_lt_of_cell? w _ hw464_0)).trans hw464_0), hx465_0, ((HB.out.cell (World.block_lt_of_cell? w _ hw466_0)).trans hw466_0), ((HB.out.cell (World.block_lt_of_cell? w _ hw467_0)).trans hw467_0), hx468_0, ((HB.out.cell (World.block_lt_of_cell? w _ hw469_0)).trans hw469_0)⟩ (fun hHeld => ?_); refine with_tabW plinthref25_Diff.tab13 plinthref25_Diff.bits13 (fun HT_ HW_ => ?_)
                   generalize wr.drew = w39 at HO_7 HO_10 BK455 BK456 HB HR464_0 HR467_0 hx464_0 hx465_0 hx466_0 hx467_0 hx468_0 hx469_0 hHeld ⊢
                   refine pM 0 53 HT_.out ?_; refine pM 2 55 HT_.out ?_; refine pM 5 58 HT_.out ?_; refine pM 6 59 HT_.out ?_; refine pM 7 60 HT_.out ?_; refine pM 11 64 HT_.out ?_; refine pM 13 66 HT_.out ?_; refine pM 16 69 HT_.out ?_; refine pM 17 70 HT_.out ?_; refine pM 18 71 HT_.out ?_; refine tM 1 54 HT_.out HW_.out hHeld ?_; refine pM 3 56 HT_.out ?_; refine tM 4 57 HT_.out HW_.out hHeld ?_; refine tM 8 61 HT_.out HW_.out hHeld ?_; refine pM 9 62 HT_.out ?_; refine tM 10 63 HT_.out HW_.out hHeld ?_; refine tM 12 65 HT_.out HW_.out hHeld ?_; refine pM 14 67 HT_.out ?_; refine tM 15 68 HT_.out HW_.out hHeld ?_; refine tM 19 72 HT_.out HW_.out hHeld ?_; refine pM 20 73 HT_.out ?_; refine tM 21 74 HT_.out HW_.out hHeld ?_; refine pM 22 75 HT_.out ?_
                   refine done_ (done_of HT_.out (by kernel_rfl)) ?_
                   have p470 : 0 ≤ (x11_3 : Int) := of_decide_eq_true (by first | (with_reducible assumption) | assumption)
                   have q470 : x11_3 < (x7_2.length : Int) := of_decide_eq_true (by first | (with_reducible assumption) | assumption)
                   obtain ⟨ad470, e470, hx470_0⟩ := Kd.at_int (Kd.R_reads' HO_7.out).2.2 x11_3 p470 q470
                   obtain rfl : ad465 = ad470 := (by injection e470)
                   replace p470 := eq_true p470
                   replace q470 := eq_true q470
                   try go_wp2_with (first | ((with_reducible refine gate_builtin (b := .append) (xs := #[.tmp 76, .tmp 81]) rfl ?_); (try (refine gate_guard (by rfl) ?_; dsimp only)); at_builtin; refine Kd.R_append (Kd.int .i64) (w0 := w) w.heap.size rfl (.tmp 76) (.tmp 81) 56 3 (.int .i64 0) 8 rfl Try.underlying56 info3 rfl (by decide) (by omega) u10 x10_3 (rd x7_2 x11_3) [.int .i64 (rd x7_2 x11_3)] (fun k_ => some k_ ≠ (.slice (some ad465) x7_2.length co38 : Value).ownBlock) (fun _ => False) rfl rfl ?aP (fun _ hk => hk.elim) ?aF ?aO ?aB ?aS ?aL ?_; (case aP => exact rfl); (case aB => exact (upB2 HB.out GE455.out GE456.out)); (case aF => exact (fun k_ hk => Kd.fresh' (Kd.R_lt (upR HO_7.out)) k_ hk)); (case aO => exact (upR HO_10.out)); (case aS => exact (below_size (upB2 HB.out GE455.out GE456.out))); (case aL => have := LMc37.out; omega); intro v472 w40 ho hb hg hat; rw [← Ny471.out] at ho; have n0_ := Aside0.mk (Kd.R_after (ok := (fun _ => True)) (by refine upR ?_; exact Kd.R_mono HO_7.out (fun _ hk => ⟨trivial, hk⟩)) hg hat); have n1_ := Aside0.mk (blk_grown (upK BK455.out) hg (Kd.R_ne HO_10.out BK455.out (by decide))); have n2_ := Aside0.mk (blk_grown (upK BK456.out) hg (Kd.R_ne HO_10.out BK456.out (by decide))); have n3_ := Aside0.mk (hb); have n4_ := Aside0.mk (ho); clear HO_7; clear BK455; clear BK456; clear HB; clear HO_10; have HO_7 := n0_; have BK455 := n1_; have BK456 := n2_; have HB := n3_; have HO473 := n4_; clear n0_ n1_ n2_ n3_ n4_; clear ho hb hg hat))
                   go_roundg k3
                   case measure => have := HJ2.out; have := HK2.out; have := HK3.out; omega
                   case rel => exact ⟨(wrap64 (x8_3 + 1)), (y471), (wrap64 (x11_3 + 1)), (by first | rfl | (simp; done) | (simp [*]; done)), (by first | rfl | (simp; done) | (simp [*]; done)), H', ⟨by have := HJ2.out; have := HK2.out; have := HK3.out; omega⟩, ⟨by refine upR ?_; exact Kd.R_mono HO_7.out (fun _ hk => hk.2)⟩, ⟨by refine upR ?_; exact HO473.out⟩, ⟨by refine upK ?_; exact BK455.out⟩, ⟨by refine upK ?_; exact BK456.out⟩, ⟨upB2 HB.out GE455.out GE456.out⟩⟩
                  ·rw [if_neg c37] at H
                   exact absurd H (by simp)
                ·rw [if_neg c33] at H
                 exact absurd H (by simp)
               ·rw [if_neg c32] at H
                exact absurd H (by simp)
              ·rw [if_neg c31] at H
               exact absurd H (by simp)
             ·rw [if_neg c30] at H
              exact absurd H (by simp)
            ·rw [if_neg c29] at H
             exact absurd H (by simp)
           ·rw [if_neg c28] at H
            exact absurd H (by simp)
          ·rw [if_neg c27] at H
           exact absurd H (by simp)
         ·rw [if_neg c26] at H
          have c26b0 : decide (x11_3 < (x7_2.length : Int)) = false := decide_eq_false c26
          clear c26
          by_cases c41 : x9_2 = 0
          ·rw [if_pos c41] at H
           have c41b0 : (x9_2 == 0) = true := beq_iff_eq.mpr c41
           have c41b1 : (x9_2 != 0) = false := bne_eq_false_iff_eq.mpr c41
           clear c41
           simp only [Option.some.injEq, Prod.mk.injEq] at H
           obtain ⟨rfl, rfl, rfl⟩ := H
           obtain ⟨Ao42, co42, eo42⟩ := Kd.R_slice HO_7.out
           subst eo42
           go_wp2
           go_ret3
           exact ⟨_, by first | rfl | (simp [errW_none, errW_some] <;> rfl) | (simp [*, errW_none, errW_some] <;> rfl), by refine upR ?_; exact Kd.R_mono HO_10.out (fun _ hk => trivial), upB2 HB.out GE455.out GE456.out⟩
          ·rw [if_neg c41] at H
           have c41b0 : (x9_2 == 0) = false := beq_eq_false_iff_ne.mpr c41
           have c41b1 : (x9_2 != 0) = true := bne_iff_ne.mpr c41
           have H' := Aside0.mk H
           clear H
           obtain ⟨Ao43, co43, eo43⟩ := Kd.R_slice HO_7.out
           subst eo43
           go_wp2
           go_loopg [12, 13] k3 (fun kq v12 v13 w' => ∃ (x12_4 : List Int) (x13_4 : Int), v13 = .int .i64 x13_4 ∧ Aside0 (plinthref25_Diff.l2 kq x10_3 x8_3 x9_2 x12_4 x13_4 l0_0 l1_0 = some (r1, r2, r3)) ∧ Aside0 (kq ≤ k3) ∧ Aside0 (Kd.R (Kd.int .i64) 3 w' w.heap.size (fun k_ => some k_ ≠ (v12 : Value).ownBlock) u10 x10_3) ∧ Aside0 (Kd.R (Kd.int .i64) 3 w' w.heap.size (fun k_ => some k_ ≠ (u10 : Value).ownBlock) v12 x12_4) ∧ Aside0 (w'.heap[gb455]? = some (.cells #[(.slice A0_0 l0_0.length c0_0)] 24 (0, 0))) ∧ Aside0 (w'.heap[gb456]? = some (.cells #[(.slice A1_0 l1_0.length c1_0)] 24 (0, 0))) ∧ Aside0 (Below w.heap.size w w'))
           case atStart => exact ⟨(([] : List Int)), (0), (by first | rfl | (simp; done) | (simp [*]; done)), H', ⟨Nat.le_refl _⟩, ⟨by refine upR ?_; exact Kd.R_mono HO_10.out (fun _ hk => (by simp [Value.ownBlock]))⟩, ⟨by first | exact Kd.R_nil _ _ _ _ _ | exact Kd.N_nil _ _ _ _ _ | exact Kd.V_nil _ _ _ _ _ | exact Kd.Q_nil _ _ _ _ _ | exact Kd.S_nil _ _ _ _ _⟩, ⟨by refine upK ?_; exact BK455.out⟩, ⟨by refine upK ?_; exact BK456.out⟩, ⟨upB2 HB.out GE455.out GE456.out⟩⟩
           case round =>
            clear H'
            (try clear c1); (try clear c2); (try clear p2); (try clear c3); (try clear c4); (try clear p4); (try clear q4); (try clear hx4); (try clear p6); (try clear c26); (try clear c26b0); (try clear c27); (try clear c28); (try clear c29); (try clear c30); (try clear c31); (try clear c31b0); (try clear c32); (try clear c32b0); (try clear c33); (try clear c33b0); (try clear c34); (try clear c34b0); (try clear c34b1); (try clear c37); (try clear c41); (try clear c41b0); (try clear c41b1); (try clear hx464_0); (try clear hx465_0); (try clear hx466_0); (try clear hx467_0); (try clear hx468_0); (try clear hx469_0); (try clear hx470_0); (try clear p464); (try clear p465); (try clear p466); (try clear p467); (try clear p468); (try clear p469); (try clear p470); (try clear q464); (try clear q465); (try clear q466); (try clear q467); (try clear q468); (try clear q469); (try clear q470)
            obtain ⟨x12_4, x13_4, rfl, HA, HK4, HO_7, HO_12, BK455, BK456, HB⟩ := hrel
            cases gk with
            | zero => exact absurd HA.out (by simp [plinthref25_Diff.l2])
            | succ k4 =>
             have H := HA.out
             clear HA
             simp only [plinthref25_Diff.l2] at H
             by_cases c44 : x13_4 < (x10_3.length : Int)
             ·rw [if_pos c44] at H
              have c44b0 : decide (x13_4 < (x10_3.length : Int)) = true := decide_eq_true c44
              clear c44
              have H' := Aside0.mk H
              clear H
              obtain ⟨Ao45, co45, eo45⟩ := Kd.R_slice HO_7.out
              subst eo45
              go_wp2
              go_loopg [12, 14] k4 (fun kq v12 v14 w' => ∃ (x12_5 : List Int) (x14_5 : Int), v14 = .int .i64 x14_5 ∧ Aside0 (plinthref25_Diff.l3 kq x10_3 x8_3 x9_2 x12_5 x13_4 x14_5 l0_0 l1_0 = some (r1, r2, r3)) ∧ Aside0 (kq ≤ k4) ∧ Aside0 (Kd.R (Kd.int .i64) 3 w' w.heap.size (fun k_ => some k_ ≠ (v12 : Value).ownBlock) (.slice Ao45 x10_3.length co45) x10_3) ∧ Aside0 (Kd.R (Kd.int .i64) 3 w' w.heap.size (fun k_ => some k_ ≠ ((.slice Ao45 x10_3.length co45) : Value).ownBlock) v12 x12_5) ∧ Aside0 (w'.heap[gb455]? = some (.cells #[(.slice A0_0 l0_0.length c0_0)] 24 (0, 0))) ∧ Aside0 (w'.heap[gb456]? = some (.cells #[(.slice A1_0 l1_0.length c1_0)] 24 (0, 0))) ∧ Aside0 (Below w.heap.size w w'))
              case atStart => exact ⟨(x12_4), (0), (by first | rfl | (simp; done) | (simp [*]; done)), H', ⟨Nat.le_refl _⟩, ⟨by refine upR ?_; exact HO_7.out⟩, ⟨by refine upR ?_; exact HO_12.out⟩, ⟨by refine upK ?_; exact BK455.out⟩, ⟨by refine upK ?_; exact BK456.out⟩, ⟨upB2 HB.out GE455.out GE456.out⟩⟩
              case round =>
               clear H'
               (try clear c1); (try clear c2); (try clear p2); (try clear c3); (try clear c4); (try clear p4); (try clear q4); (try clear hx4); (try clear p6); (try clear c26); (try clear c26b0); (try clear c27); (try clear c28); (try clear c29); (try clear c30); (try clear c31); (try clear c31b0); (try clear c32); (try clear c32b0); (try clear c33); (try clear c33b0); (try clear c34); (try clear c34b0); (try clear c34b1); (try clear c37); (try clear c41); (try clear c41b0); (try clear c41b1); (try clear c44); (try clear c44b0); (try clear hx464_0); (try clear hx465_0); (try clear hx466_0); (try clear hx467_0); (try clear hx468_0); (try clear hx469_0); (try clear hx470_0); (try clear p2); (try clear p4); (try clear p464); (try clear p465); (try clear p466); (try clear p467); (try clear p468); (try clear p469); (try clear p470); (try clear p6); (try clear q4); (try clear q464); (try clear q465); (try clear q466); (try clear q467); (try clear q468); (try clear q469); (try clear q470)
               obtain ⟨x12_5, x14_5, rfl, HA, HK5, HO_7, HO_12, BK455, BK456, HB⟩ := hrel
               cases gk with
               | zero => exact absurd HA.out (by simp [plinthref25_Diff.l3])
               | succ k5 =>
                have H := HA.out
                clear HA
                simp only [plinthref25_Diff.l3] at H
                by_cases c46 : x14_5 < 4
                ·rw [if_pos c46] at H
                 have c46b0 : decide (x14_5 < 4) = true := decide_eq_true c46
                 clear c46
                 by_cases c47 : 0 ≤ x13_4
                 ·rw [if_pos c47] at H
                  have c47b0 : decide (0 ≤ x13_4) = true := decide_eq_true c47
                  clear c47
                  by_cases c48 : x13_4 < (x10_3.length : Int)
                  ·rw [if_pos c48] at H
                   have c48b0 : decide (x13_4 < (x10_3.length : Int)) = true := decide_eq_true c48
                   clear c48
                   obtain ⟨ji49, hji49⟩ : ∃ j_ : Int, (wrap64 (x9_2 - 1)) = j_ := ⟨_, rfl⟩
                   replace H : (if 0 ≤ (ji49) then (if (ji49) < (l0_0.length : Int) then (if (wrap64 ((wrap64 ((rd x10_3 x13_4) * 4)) + x14_5)) < ((rd_L1 l0_0 (ji49)).length : Int) then (if x12_5.length < 17592186044416 then (plinthref25_Diff.l3 k5 x10_3 x8_3 x9_2 (x12_5 ++ [wrap64 ((wrap64 ((rd x10_3 x13_4) * 4)) + x14_5)]) x13_4 (wrap64 (x14_5 + 1)) l0_0 l1_0) else (none)) else (plinthref25_Diff.l2 k5 x10_3 x8_3 x9_2 x12_5 (wrap64 (x13_4 + 1)) l0_0 l1_0)) else (none)) else (none)) = some (r1, r2, r3) := by first | (rw [hji49] at H; exact H) | (simp only [hji49] at H ⊢; exact H)
                   have hji49w : (IntKind.i64.wrap (x9_2 - 1)) = ji49 := (i64_w _).trans hji49
                   by_cases c50 : 0 ≤ (ji49)
                   ·rw [if_pos c50] at H
                    have c50b0 : decide (0 ≤ (ji49)) = true := decide_eq_true c50
                    clear c50
                    by_cases c51 : (ji49) < (l0_0.length : Int)
                    ·rw [if_pos c51] at H
                     have c51b0 : decide ((ji49) < (l0_0.length : Int)) = true := decide_eq_true c51
                     clear c51
                     by_cases c52 : (wrap64 ((wrap64 ((rd x10_3 x13_4) * 4)) + x14_5)) < ((rd_L1 l0_0 (ji49)).length : Int)
                     ·rw [if_pos c52] at H
                      have c52b0 : decide ((wrap64 ((wrap64 ((rd x10_3 x13_4) * 4)) + x14_5)) < ((rd_L1 l0_0 (ji49)).length : Int)) = true := decide_eq_true c52
                      clear c52
                      by_cases c53 : x12_5.length < 17592186044416
                      ·rw [if_pos c53] at H
                       have LMc53 := Aside0.mk c53
                       clear c53
                       obtain ⟨y477, hy477⟩ : ∃ y_ : List Int, y_ = (x12_5 ++ [wrap64 ((wrap64 ((rd x10_3 x13_4) * 4)) + x14_5)]) := ⟨_, rfl⟩
                       replace H : (plinthref25_Diff.l3 k5 x10_3 x8_3 x9_2 y477 x13_4 (wrap64 (x14_5 + 1)) l0_0 l1_0) = some (r1, r2, r3) := by first | (rw [hy477]; with_reducible exact H) | (have H2_ := (Option.bind_some _ _).symm.trans H; rw [hy477]; with_reducible exact H2_) | (have H2_ := (Option.bind_some _ _).symm.trans H; with_reducible exact H2_) | with_reducible exact H | (rw [hy477]; exact H) | exact H
                       have Ny477 := Aside0.mk hy477
                       clear hy477
                       have H' := Aside0.mk H
                       clear H
                       try go_wp2
                       replace HO_7 := Aside0.mk (Kd.R_drew HO_7.out)
                       replace HO_12 := Aside0.mk (Kd.R_drew HO_12.out)
                       replace BK455 := Aside0.mk (blk_drew BK455.out)
                       replace BK456 := Aside0.mk (blk_drew BK456.out)
                       replace HB := Aside0.mk (below_drew1 HB.out)
                       have p474 : 0 ≤ (x13_4 : Int) := of_decide_eq_true (by first | (with_reducible assumption) | assumption)
                       have q474 : x13_4 < (x10_3.length : Int) := of_decide_eq_true (by first | (with_reducible assumption) | assumption)
                       obtain ⟨ad474, e474, hx474_0⟩ := Kd.at_int (Kd.R_reads' HO_7.out).2.2 x13_4 p474 q474
                       cases e474
                       replace p474 := eq_true p474
                       replace q474 := eq_true q474
                       have p475 : 0 ≤ ((ji49) : Int) := of_decide_eq_true (by first | (with_reducible assumption) | assumption)
                       have q475 : (ji49) < (l0_0.length : Int) := of_decide_eq_true (by first | (with_reducible assumption) | assumption)
                       obtain ⟨ad475, A475_0, c475_0, e475, hx475_0, hl475_0, hi475_0⟩ := at_L1 HR0_0.out (ji49) p475 q475
                       have hw475_0 := hx475_0
                       cases e475
                       replace hx475_0 := (HB.out.cell (World.block_lt_of_cell? w _ hx475_0)).trans hx475_0
                       have HR475_0 := Aside0.mk hi475_0
                       have HC475_0 := Aside0.mk hl475_0
                       clear hi475_0 hl475_0
                       replace p475 := eq_true p475
                       replace q475 := eq_true q475
                       refine start_ (n := 19) (S := fun w' => w'.cell? ⟨gb455, 0, none⟩ = some (.slice (some ad475) l0_0.length c0_0) ∧ w'.cell? (ad474.add (x13_4).toNat) = some (.int .i64 (rd x10_3 x13_4)) ∧ w'.cell? (ad475.add ((ji49)).toNat) = some (.slice A475_0 (rd_L1 l0_0 (ji49)).length c475_0)) (ds := []) (Array.replicate 19 false) (by kernel_rfl) rfl rfl ⟨(blk_cell BK455.out 0).trans rfl, hx474_0, ((HB.out.cell (World.block_lt_of_cell? w _ hw475_0)).trans hw475_0)⟩ (fun hHeld => ?_); refine with_tabW plinthref25_Diff.tab22 plinthref25_Diff.bits22 (fun HT_ HW_ => ?_)
                       generalize wr.drew = w54 at HO_7 HO_12 BK455 BK456 HB HR475_0 hx474_0 hx475_0 hHeld ⊢
                       refine pM 0 92 HT_.out ?_; refine pM 1 93 HT_.out ?_; refine pM 2 94 HT_.out ?_; refine pM 3 95 HT_.out ?_; refine pM 4 96 HT_.out ?_; refine pM 5 97 HT_.out ?_; refine pM 8 100 HT_.out ?_; refine pM 10 102 HT_.out ?_; refine pM 12 104 HT_.out ?_; refine pM 13 105 HT_.out ?_; refine tM 6 98 HT_.out HW_.out hHeld ?_; refine pM 7 99 HT_.out ?_; refine pM 9 101 HT_.out ?_; refine tM 11 103 HT_.out HW_.out hHeld ?_; refine pM 14 106 HT_.out ?_; refine tM 15 107 HT_.out HW_.out hHeld ?_; refine pM 16 108 HT_.out ?_; refine pM 17 109 HT_.out ?_; refine pM 18 110 HT_.out ?_
                       refine done_ (done_of HT_.out (by kernel_rfl)) ?_
                       have p476 : 0 ≤ (x13_4 : Int) := of_decide_eq_true (by first | (with_reducible assumption) | assumption)
                       have q476 : x13_4 < (x10_3.length : Int) := of_decide_eq_true (by first | (with_reducible assumption) | assumption)
                       obtain ⟨ad476, e476, hx476_0⟩ := Kd.at_int (Kd.R_reads' HO_7.out).2.2 x13_4 p476 q476
                       obtain rfl : ad474 = ad476 := (by injection e476)
                       replace p476 := eq_true p476
                       replace q476 := eq_true q476
                       try go_wp2_with (first | ((with_reducible refine gate_builtin (b := .append) (xs := #[.tmp 113, .tmp 121]) rfl ?_); (try (refine gate_guard (by rfl) ?_; dsimp only)); at_builtin; refine Kd.R_append (Kd.int .i64) (w0 := w) w.heap.size rfl (.tmp 113) (.tmp 121) 56 3 (.int .i64 0) 8 rfl Try.underlying56 info3 rfl (by decide) (by omega) u12 x12_5 (wrap64 ((wrap64 ((rd x10_3 x13_4) * 4)) + x14_5)) [.int .i64 (wrap64 ((wrap64 ((rd x10_3 x13_4) * 4)) + x14_5))] (fun k_ => some k_ ≠ (.slice (some ad474) x10_3.length co45 : Value).ownBlock) (fun _ => False) rfl rfl ?aP (fun _ hk => hk.elim) ?aF ?aO ?aB ?aS ?aL ?_; (case aP => exact rfl); (case aB => exact (upB2 HB.out GE455.out GE456.out)); (case aF => exact (fun k_ hk => Kd.fresh' (Kd.R_lt (upR HO_7.out)) k_ hk)); (case aO => exact (upR HO_12.out)); (case aS => exact (below_size (upB2 HB.out GE455.out GE456.out))); (case aL => have := LMc53.out; omega); intro v478 w55 ho hb hg hat; rw [← Ny477.out] at ho; have n0_ := Aside0.mk (Kd.R_after (ok := (fun _ => True)) (by refine upR ?_; exact Kd.R_mono HO_7.out (fun _ hk => ⟨trivial, hk⟩)) hg hat); have n1_ := Aside0.mk (blk_grown (upK BK455.out) hg (Kd.R_ne HO_12.out BK455.out (by decide))); have n2_ := Aside0.mk (blk_grown (upK BK456.out) hg (Kd.R_ne HO_12.out BK456.out (by decide))); have n3_ := Aside0.mk (hb); have n4_ := Aside0.mk (ho); clear HO_7; clear BK455; clear BK456; clear HB; clear HO_12; have HO_7 := n0_; have BK455 := n1_; have BK456 := n2_; have HB := n3_; have HO479 := n4_; clear n0_ n1_ n2_ n3_ n4_; clear ho hb hg hat))
                       go_roundg k5
                       case measure => have := HJ2.out; have := HK2.out; have := HK3.out; have := HK4.out; have := HK5.out; omega
                       case rel => exact ⟨(y477), (wrap64 (x14_5 + 1)), (by first | rfl | (simp; done) | (simp [*]; done)), H', ⟨by have := HJ2.out; have := HK2.out; have := HK3.out; have := HK4.out; have := HK5.out; omega⟩, ⟨by refine upR ?_; exact Kd.R_mono HO_7.out (fun _ hk => hk.2)⟩, ⟨by refine upR ?_; exact HO479.out⟩, ⟨by refine upK ?_; exact BK455.out⟩, ⟨by refine upK ?_; exact BK456.out⟩, ⟨upB2 HB.out GE455.out GE456.out⟩⟩
                      ·rw [if_neg c53] at H
                       exact absurd H (by simp)
                     ·rw [if_neg c52] at H
                      have c52b0 : decide ((wrap64 ((wrap64 ((rd x10_3 x13_4) * 4)) + x14_5)) < ((rd_L1 l0_0 (ji49)).length : Int)) = false := decide_eq_false c52
                      clear c52
                      have H' := Aside0.mk H
                      clear H
                      try go_wp2
                      replace HO_7 := Aside0.mk (Kd.R_drew HO_7.out)
                      replace HO_12 := Aside0.mk (Kd.R_drew HO_12.out)
                      replace BK455 := Aside0.mk (blk_drew BK455.out)
                      replace BK456 := Aside0.mk (blk_drew BK456.out)
                      replace HB := Aside0.mk (below_drew1 HB.out)
                      have p474 : 0 ≤ (x13_4 : Int) := of_decide_eq_true (by first | (with_reducible assumption) | assumption)
                      have q474 : x13_4 < (x10_3.length : Int) := of_decide_eq_true (by first | (with_reducible assumption) | assumption)
                      obtain ⟨ad474, e474, hx474_0⟩ := Kd.at_int (Kd.R_reads' HO_7.out).2.2 x13_4 p474 q474
                      cases e474
                      replace p474 := eq_true p474
                      replace q474 := eq_true q474
                      have p475 : 0 ≤ ((ji49) : Int) := of_decide_eq_true (by first | (with_reducible assumption) | assumption)
                      have q475 : (ji49) < (l0_0.length : Int) := of_decide_eq_true (by first | (with_reducible assumption) | assumption)
                      obtain ⟨ad475, A475_0, c475_0, e475, hx475_0, hl475_0, hi475_0⟩ := at_L1 HR0_0.out (ji49) p475 q475
                      have hw475_0 := hx475_0
                      cases e475
                      replace hx475_0 := (HB.out.cell (World.block_lt_of_cell? w _ hx475_0)).trans hx475_0
                      have HR475_0 := Aside0.mk hi475_0
                      have HC475_0 := Aside0.mk hl475_0
                      clear hi475_0 hl475_0
                      replace p475 := eq_true p475
                      replace q475 := eq_true q475
                      refine start_ (n := 19) (S := fun w' => w'.cell? ⟨gb455, 0, none⟩ = some (.slice (some ad475) l0_0.length c0_0) ∧ w'.cell? (ad474.add (x13_4).toNat) = some (.int .i64 (rd x10_3 x13_4)) ∧ w'.cell? (ad475.add ((ji49)).toNat) = some (.slice A475_0 (rd_L1 l0_0 (ji49)).length c475_0)) (ds := []) (Array.replicate 19 false) (by kernel_rfl) rfl rfl ⟨(blk_cell BK455.out 0).trans rfl, hx474_0, ((HB.out.cell (World.block_lt_of_cell? w _ hw475_0)).trans hw475_0)⟩ (fun hHeld => ?_); refine with_tabW plinthref25_Diff.tab22 plinthref25_Diff.bits22 (fun HT_ HW_ => ?_)
                      generalize wr.drew = w56 at HO_7 HO_12 BK455 BK456 HB HR475_0 hx474_0 hx475_0 hHeld ⊢
                      refine pM 0 92 HT_.out ?_; refine pM 1 93 HT_.out ?_; refine pM 2 94 HT_.out ?_; refine pM 3 95 HT_.out ?_; refine pM 4 96 HT_.out ?_; refine pM 5 97 HT_.out ?_; refine pM 8 100 HT_.out ?_; refine pM 10 102 HT_.out ?_; refine pM 12 104 HT_.out ?_; refine pM 13 105 HT_.out ?_; refine tM 6 98 HT_.out HW_.out hHeld ?_; refine pM 7 99 HT_.out ?_; refine pM 9 101 HT_.out ?_; refine tM 11 103 HT_.out HW_.out hHeld ?_; refine pM 14 106 HT_.out ?_; refine tM 15 107 HT_.out HW_.out hHeld ?_; refine pM 16 108 HT_.out ?_; refine pM 17 109 HT_.out ?_; refine pM 18 110 HT_.out ?_
                      refine done_ (done_of HT_.out (by kernel_rfl)) ?_
                      try go_wp2
                      go_roundg k5
                      case measure => have := HJ2.out; have := HK2.out; have := HK3.out; have := HK4.out; have := HK5.out; omega
                      case rel => exact ⟨(x12_5), (wrap64 (x13_4 + 1)), (by first | rfl | (simp; done) | (simp [*]; done)), H', ⟨by have := HJ2.out; have := HK2.out; have := HK3.out; have := HK4.out; have := HK5.out; omega⟩, ⟨by refine upR ?_; exact HO_7.out⟩, ⟨by refine upR ?_; exact HO_12.out⟩, ⟨by refine upK ?_; exact BK455.out⟩, ⟨by refine upK ?_; exact BK456.out⟩, ⟨upB2 HB.out GE455.out GE456.out⟩⟩
                    ·rw [if_neg c51] at H
                     exact absurd H (by simp)
                   ·rw [if_neg c50] at H
                    exact absurd H (by simp)
                  ·rw [if_neg c48] at H
                   exact absurd H (by simp)
                 ·rw [if_neg c47] at H
                  exact absurd H (by simp)
                ·rw [if_neg c46] at H
                 have c46b0 : decide (x14_5 < 4) = false := decide_eq_false c46
                 clear c46
                 have H' := Aside0.mk H
                 clear H
                 try go_wp2
                 replace HO_7 := Aside0.mk (Kd.R_drew HO_7.out)
                 replace HO_12 := Aside0.mk (Kd.R_drew HO_12.out)
                 replace BK455 := Aside0.mk (blk_drew BK455.out)
                 replace BK456 := Aside0.mk (blk_drew BK456.out)
                 replace HB := Aside0.mk (below_drew1 HB.out)
                 refine start_ (n := 19) (S := fun w' => True) (ds := []) (Array.replicate 19 false) (by kernel_rfl) rfl rfl trivial (fun hHeld => ?_); refine with_tabW plinthref25_Diff.tab22 plinthref25_Diff.bits22 (fun HT_ HW_ => ?_)
                 generalize wr.drew = w57 at HO_7 HO_12 BK455 BK456 HB hHeld ⊢
                 refine pM 0 92 HT_.out ?_; refine pM 1 93 HT_.out ?_; refine pM 2 94 HT_.out ?_; refine uM 3 95 HT_.out ?_; refine uM 4 96 HT_.out ?_; refine uM 5 97 HT_.out ?_; refine uM 6 98 HT_.out ?_; refine uM 7 99 HT_.out ?_; refine uM 8 100 HT_.out ?_; refine uM 9 101 HT_.out ?_; refine uM 10 102 HT_.out ?_; refine uM 11 103 HT_.out ?_; refine uM 12 104 HT_.out ?_; refine uM 13 105 HT_.out ?_; refine uM 14 106 HT_.out ?_; refine uM 15 107 HT_.out ?_; refine uM 16 108 HT_.out ?_; refine uM 17 109 HT_.out ?_; refine pM 18 110 HT_.out ?_
                 refine done_ (done_of HT_.out (by kernel_rfl)) ?_
                 try go_wp2
                 go_roundg k5
                 case measure => have := HJ2.out; have := HK2.out; have := HK3.out; have := HK4.out; have := HK5.out; omega
                 case rel => exact ⟨(x12_5), (wrap64 (x13_4 + 1)), (by first | rfl | (simp; done) | (simp [*]; done)), H', ⟨by have := HJ2.out; have := HK2.out; have := HK3.out; have := HK4.out; have := HK5.out; omega⟩, ⟨by refine upR ?_; exact HO_7.out⟩, ⟨by refine upR ?_; exact HO_12.out⟩, ⟨by refine upK ?_; exact BK455.out⟩, ⟨by refine upK ?_; exact BK456.out⟩, ⟨upB2 HB.out GE455.out GE456.out⟩⟩
             ·rw [if_neg c44] at H
              have c44b0 : decide (x13_4 < (x10_3.length : Int)) = false := decide_eq_false c44
              clear c44
              have H' := Aside0.mk H
              clear H
              obtain ⟨Ao58, co58, eo58⟩ := Kd.R_slice HO_7.out
              subst eo58
              go_wp2
              go_roundg k4
              case measure => have := HJ2.out; have := HK2.out; have := HK3.out; have := HK4.out; omega
              case rel => exact ⟨(x12_4), (x8_3), (wrap64 (x9_2 - 1)), (by first | rfl | (simp; done) | (simp [*]; done)), (by first | rfl | (simp; done) | (simp [*]; done)), H', ⟨by have := HJ2.out; have := HK2.out; have := HK3.out; have := HK4.out; omega⟩, ⟨by refine upR ?_; exact Kd.R_mono HO_12.out (fun _ hk => trivial)⟩, ⟨by refine upK ?_; exact BK455.out⟩, ⟨by refine upK ?_; exact BK456.out⟩, ⟨upB2 HB.out GE455.out GE456.out⟩⟩
      ·rw [if_neg c25] at H
       have c25b0 : decide (0 ≤ x9_2) = false := decide_eq_false c25
       clear c25
       simp only [Option.some.injEq, Prod.mk.injEq] at H
       obtain ⟨rfl, rfl, rfl⟩ := H
       go_wp2
       go_ret3
       exact ⟨_, by first | rfl | (simp [errW_none, errW_some] <;> rfl) | (simp [*, errW_none, errW_some] <;> rfl), by refine upR ?_; exact HO_7.out, upB2 HB.out GE455.out GE456.out⟩

end Go.Proofs.Ytbmmddngadnofaa.F
