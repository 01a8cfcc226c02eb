-- Written by ext (this session's own program).
-- in short rows (short.py)
import Derived.Test.YtbmmddngadnofaaFx0
import Derived.Test.YtbmmddngadnofaaFx49
import Derived.Test.YtbmmddngadnofaaFx50
import Derived.Test.YtbmmddngadnofaaFx52
import Derived.Test.YtbmmddngadnofaaFx53
namespace Go.Proofs.Ytbmmddngadnofaa.F
open Go.RowKit Go.Proofs.YtbmmddngadnofaaW.PrintWords Go.Proofs.YtbmmddngadnofaaW.PrintLast Go.Proofs.YtbmmddngadnofaaW.PrintMore
attribute [local go_sem] max2_int min2_int max_two min_two max_three min_three max_four min_four   -- for this text's walks alone
set_option linter.unusedVariables false
set_option linter.unusedSimpArgs false

/-! ### plinthref07_State: function 41 -/
mutual
def plinthref07_State.j0 : Nat → Bool → Int → Int → Int → List (S39) → List (S121) → Int → List Int → Option (Int)
 | 0, _, _, _, _, _, _, _, _ => none
 | k + 1, x37, x566000, x566001, x566002, x566003, x566004, x566005, x566006 => if x37 = true then (some 72) else (plinthref07_State.l0 k 0 x566000 x566001 x566002 x566003 x566004 x566005 x566006)
def plinthref07_State.l0 : Nat → Int → Int → Int → Int → List (S39) → List (S121) → Int → List Int → Option (Int)
 | 0, _, _, _, _, _, _, _, _ => none
 | k + 1, x3, x566000, x566001, x566002, x566003, x566004, x566005, x566006 => if x3 < (x566003.length : Int) then (if 0 ≤ x3 then (if ((rd_T39 x566003 x3).f1) > x566000 then (some 72) else (plinthref07_State.l0 k (wrap64 (x3 + 1)) x566000 x566001 x566002 x566003 x566004 x566005 x566006)) else (none)) else (some 0)
end
def plinthref07_State.f (k : Nat) (a0_0 : Int) (a0_1 : Int) (a0_2 : Int) (l0_3 : List (S39)) (l0_4 : List (S121)) (a0_5 : Int) (l0_6 : List Int) : Option (Int) := if a0_0 < 0 then (plinthref07_State.j0 k true a0_0 a0_1 a0_2 l0_3 l0_4 a0_5 l0_6) else (if a0_0 > 4611686018427387904 then (plinthref07_State.j0 k true a0_0 a0_1 a0_2 l0_3 l0_4 a0_5 l0_6) else ((plinthref04_Shape.f a0_1 a0_2).bind fun t566 => (if t566 = 0 then ((plinthref05_Laid.f k a0_1 a0_2 l0_3).bind fun t567 => (if t567 = true then ((plinthref06_Right.f k l0_4).bind fun t568 => (if t568 = true then ((plinthref07_Group.f k a0_5 l0_6).bind fun t569 => (plinthref07_State.j0 k (t569 != 0) a0_0 a0_1 a0_2 l0_3 l0_4 a0_5 l0_6)) else (plinthref07_State.j0 k true a0_0 a0_1 a0_2 l0_3 l0_4 a0_5 l0_6))) else (plinthref07_State.j0 k true a0_0 a0_1 a0_2 l0_3 l0_4 a0_5 l0_6))) else (plinthref07_State.j0 k true a0_0 a0_1 a0_2 l0_3 l0_4 a0_5 l0_6))))
theorem plinthref07_State.mono_l : ∀ k, (∀ y0 y1 y2 y3 y4 y5 y6 y7, LeO (plinthref07_State.j0 k y0 y1 y2 y3 y4 y5 y6 y7) (plinthref07_State.j0 (k + 1) y0 y1 y2 y3 y4 y5 y6 y7)) ∧ (∀ y0 y1 y2 y3 y4 y5 y6 y7, LeO (plinthref07_State.l0 k y0 y1 y2 y3 y4 y5 y6 y7) (plinthref07_State.l0 (k + 1) y0 y1 y2 y3 y4 y5 y6 y7))
 | 0 => ⟨fun _ _ _ _ _ _ _ _ r h => by simp [plinthref07_State.j0] at h, fun _ _ _ _ _ _ _ _ r h => by simp [plinthref07_State.l0] at h⟩
 | k + 1 => by
  obtain ⟨ih0, ih1⟩ := plinthref07_State.mono_l k
  refine ⟨?_, ?_⟩
  ·intro y0 y1 y2 y3 y4 y5 y6 y7
   unfold plinthref07_State.j0
   repeat' first
   | (with_reducible exact ih0 _ _ _ _ _ _ _ _)
   | (with_reducible exact ih1 _ _ _ _ _ _ _ _)
   | (with_reducible exact plinthref05_Laid.mono _ _ _ _)
   | (with_reducible exact plinthref06_Right.mono _ _)
   | (with_reducible exact plinthref07_Group.mono _ _ _)
   | (with_reducible exact LeO.refl _)
   | (with_reducible exact LeO.none _)
   | (with_reducible refine LeO.ite ?_ ?_)
   | (with_reducible refine LeO.bind ?_ (fun _ => ?_))
   | exact ih0 _ _ _ _ _ _ _ _
   | exact ih1 _ _ _ _ _ _ _ _
   | exact plinthref05_Laid.mono _ _ _ _
   | exact plinthref06_Right.mono _ _
   | exact plinthref07_Group.mono _ _ _
   | exact LeO.none _
   | refine LeO.ite ?_ ?_
   | refine LeO.bind ?_ (fun _ => ?_)
  ·intro y0 y1 y2 y3 y4 y5 y6 y7
   unfold plinthref07_State.l0
   repeat' first
   | (with_reducible exact ih0 _ _ _ _ _ _ _ _)
   | (with_reducible exact ih1 _ _ _ _ _ _ _ _)
   | (with_reducible exact plinthref05_Laid.mono _ _ _ _)
   | (with_reducible exact plinthref06_Right.mono _ _)
   | (with_reducible exact plinthref07_Group.mono _ _ _)
   | (with_reducible exact LeO.refl _)
   | (with_reducible exact LeO.none _)
   | (with_reducible refine LeO.ite ?_ ?_)
   | (with_reducible refine LeO.bind ?_ (fun _ => ?_))
   | exact ih0 _ _ _ _ _ _ _ _
   | exact ih1 _ _ _ _ _ _ _ _
   | exact plinthref05_Laid.mono _ _ _ _
   | exact plinthref06_Right.mono _ _
   | exact plinthref07_Group.mono _ _ _
   | exact LeO.none _
   | refine LeO.ite ?_ ?_
   | refine LeO.bind ?_ (fun _ => ?_)
theorem plinthref07_State.mono : ∀ a0 a1 a2 a3 a4 a5 a6 k, LeO (plinthref07_State.f k a0 a1 a2 a3 a4 a5 a6) (plinthref07_State.f (k + 1) a0 a1 a2 a3 a4 a5 a6) := by
 intro a0 a1 a2 a3 a4 a5 a6 k
 obtain ⟨ih0, ih1⟩ := plinthref07_State.mono_l k
 unfold plinthref07_State.f
 repeat' first
   | (with_reducible exact ih0 _ _ _ _ _ _ _ _)
   | (with_reducible exact ih1 _ _ _ _ _ _ _ _)
   | (with_reducible exact plinthref05_Laid.mono _ _ _ _)
   | (with_reducible exact plinthref06_Right.mono _ _)
   | (with_reducible exact plinthref07_Group.mono _ _ _)
   | (with_reducible exact LeO.refl _)
   | (with_reducible exact LeO.none _)
   | (with_reducible refine LeO.ite ?_ ?_)
   | (with_reducible refine LeO.bind ?_ (fun _ => ?_))
   | exact ih0 _ _ _ _ _ _ _ _
   | exact ih1 _ _ _ _ _ _ _ _
   | exact plinthref05_Laid.mono _ _ _ _
   | exact plinthref06_Right.mono _ _
   | exact plinthref07_Group.mono _ _ _
   | exact LeO.none _
   | refine LeO.ite ?_ ?_
   | refine LeO.bind ?_ (fun _ => ?_)
set_option maxHeartbeats 8000000 in
set_option maxRecDepth 100000 in
theorem plinthref07_State.calls (k : Nat) (a0_0 : Int) (a0_1 : Int) (a0_2 : Int) (A0_3 : Option Addr) (c0_3 : Nat) (l0_3 : List (S39)) (A0_4 : Option Addr) (c0_4 : Nat) (l0_4 : List (S121)) (a0_5 : Int) (A0_6 : Option Addr) (c0_6 : Nat) (l0_6 : List Int) (r : Int) (w : World) (hr0_3 : Kd.C k39 w A0_3 l0_3.length l0_3) (hc0_3 : l0_3.length ≤ c0_3) (hr0_4 : Kd.C k121 w A0_4 l0_4.length l0_4) (hc0_4 : l0_4.length ≤ c0_4) (hr0_6 : Kd.C (Kd.int .i64) w A0_6 l0_6.length l0_6) (hc0_6 : l0_6.length ≤ c0_6) (h : plinthref07_State.f k a0_0 a0_1 a0_2 l0_3 l0_4 a0_5 l0_6 = some r) :
  Calls Try.prog 41 #[.agg #[.int .i64 a0_0, .int .i64 a0_1, .int .i64 a0_2, .slice A0_3 l0_3.length c0_3, .slice A0_4 l0_4.length c0_4, .int .i64 a0_5, .slice A0_6 l0_6.length c0_6]] w fun e w' => e = .returned (.int .i64 r) ∧ Below w.heap.size w w' := by
 have hu69 := Try.underlying69
 have hu63 := Try.underlying63
 have hu67 := Try.underlying67
 have HR0_3 := Aside0.mk hr0_3
 have HC0_3 := Aside0.mk hc0_3
 clear hr0_3 hc0_3
 have HR0_4 := Aside0.mk hr0_4
 have HC0_4 := Aside0.mk hc0_4
 clear hr0_4 hc0_4
 have HR0_6 := Aside0.mk hr0_6
 have HC0_6 := Aside0.mk hc0_6
 clear hr0_6 hc0_6
 have HB := Aside0.mk (Below.refl w.heap.size w)
 have H : (if a0_0 < 0 then (plinthref07_State.j0 k true a0_0 a0_1 a0_2 l0_3 l0_4 a0_5 l0_6) else (if a0_0 > 4611686018427387904 then (plinthref07_State.j0 k true a0_0 a0_1 a0_2 l0_3 l0_4 a0_5 l0_6) else ((plinthref04_Shape.f a0_1 a0_2).bind fun t566 => (if t566 = 0 then ((plinthref05_Laid.f k a0_1 a0_2 l0_3).bind fun t567 => (if t567 = true then ((plinthref06_Right.f k l0_4).bind fun t568 => (if t568 = true then ((plinthref07_Group.f k a0_5 l0_6).bind fun t569 => (plinthref07_State.j0 k (t569 != 0) a0_0 a0_1 a0_2 l0_3 l0_4 a0_5 l0_6)) else (plinthref07_State.j0 k true a0_0 a0_1 a0_2 l0_3 l0_4 a0_5 l0_6))) else (plinthref07_State.j0 k true a0_0 a0_1 a0_2 l0_3 l0_4 a0_5 l0_6))) else (plinthref07_State.j0 k true a0_0 a0_1 a0_2 l0_3 l0_4 a0_5 l0_6))))) = some r := h
 clear h
 have HC2 := Aside0.mk H
 clear H
 go_enter Try.func41, Try.ntmps41
 go_upto_region 1 with (first | ((with_reducible refine gate_dst (N := 1) rfl ?_); refine box_event ?hg (N := 1) ?hd (cs := #[.int .i64 a0_0, .int .i64 a0_1, .int .i64 a0_2, .slice A0_3 l0_3.length c0_3, .slice A0_4 l0_4.length c0_4, .int .i64 a0_5, .slice A0_6 l0_6.length c0_6]) (t := 69) ?hr ?_; (case hd => rfl); (case hg => rfl); (case hr => first | (go_simp; done) | (go_simp; rfl)); intro gb565 hg w3 hbox hb; have BK565 := Aside0.mk (hbox); have GW565 := Aside0.mk ((by rw [hg]; exact (below_size (upB0 HB.out)) : w.heap.size ≤ gb565)); have GE565 := Aside0.mk ((by rw [hg]; exact (below_size (upB0 HB.out)) : w.heap.size ≤ gb565)); replace HB := Aside0.mk (below_step (upB0 HB.out) hb); clear hb hbox hg))
 repeat (go_quiet (first | ((with_reducible refine gate_dst (N := 1) rfl ?_); refine box_event ?hg (N := 1) ?hd (cs := #[.int .i64 a0_0, .int .i64 a0_1, .int .i64 a0_2, .slice A0_3 l0_3.length c0_3, .slice A0_4 l0_4.length c0_4, .int .i64 a0_5, .slice A0_6 l0_6.length c0_6]) (t := 69) ?hr ?_; (case hd => rfl); (case hg => rfl); (case hr => first | (go_simp; done) | (go_simp; rfl)); intro gb565 hg w3 hbox hb; have BK565 := Aside0.mk (hbox); have GW565 := Aside0.mk ((by rw [hg]; exact (below_size (upB0 HB.out)) : w.heap.size ≤ gb565)); have GE565 := Aside0.mk ((by rw [hg]; exact (below_size (upB0 HB.out)) : w.heap.size ≤ gb565)); replace HB := Aside0.mk (below_step (upB0 HB.out) hb); clear hb hbox hg)); go_upto_region 1 with (first | ((with_reducible refine gate_dst (N := 1) rfl ?_); refine box_event ?hg (N := 1) ?hd (cs := #[.int .i64 a0_0, .int .i64 a0_1, .int .i64 a0_2, .slice A0_3 l0_3.length c0_3, .slice A0_4 l0_4.length c0_4, .int .i64 a0_5, .slice A0_6 l0_6.length c0_6]) (t := 69) ?hr ?_; (case hd => rfl); (case hg => rfl); (case hr => first | (go_simp; done) | (go_simp; rfl)); intro gb565 hg w3 hbox hb; have BK565 := Aside0.mk (hbox); have GW565 := Aside0.mk ((by rw [hg]; exact (below_size (upB0 HB.out)) : w.heap.size ≤ gb565)); have GE565 := Aside0.mk ((by rw [hg]; exact (below_size (upB0 HB.out)) : w.heap.size ≤ gb565)); replace HB := Aside0.mk (below_step (upB0 HB.out) hb); clear hb hbox hg)))
 (try simp only [Act.put, List.setIfInBounds_toArray, List.set_cons_zero, List.set_cons_succ])
 go_cut [37] (fun v37 wc => ∃ (kq : Nat) (x37_1 : Bool), v37 = .bool x37_1 ∧ Aside0 (plinthref07_State.j0 kq x37_1 a0_0 a0_1 a0_2 l0_3 l0_4 a0_5 l0_6 = some r) ∧ Aside0 (kq ≤ k) ∧ Aside0 (wc.heap[gb565]? = some (.cells #[.int .i64 a0_0, .int .i64 a0_1, .int .i64 a0_2, (.slice A0_3 l0_3.length c0_3), (.slice A0_4 l0_4.length c0_4), .int .i64 a0_5, (.slice A0_6 l0_6.length c0_6)] 69 (0, 0))) ∧ Aside0 (Below w.heap.size w wc))
 case first =>
  have H := HC2.out
  clear HC2
  by_cases c4 : a0_0 < 0
  ·rw [if_pos c4] at H
   have c4b0 : decide (a0_0 < 0) = true := decide_eq_true c4
   clear c4
   (first | rw [c4b0] | (simp only [i64_w, i32_w]; rw [c4b0]) | skip)
   have H' := Aside0.mk H
   clear H
   obtain ⟨hcz5_0, hcz5_1, hcz5_2, hcz5_3, hcz5_4, hcz5_5, hcz5_6, hfz5_0, hfz5_1, hfz5_2, hfz5_3, hfz5_4, hfz5_5, hfz5_6⟩ := cells7 BK565.out
   go_wp2
   repeat (go_quiet (fail); try go_wp2)
   go_meet
   case rel => exact ⟨_, (true), (by first | rfl | (simp; done) | (simp [*]; done)), H', ⟨by first | omega | exact Nat.le_refl _⟩, ⟨by refine upK ?_; exact BK565.out⟩, ⟨upB1 HB.out GE565.out⟩⟩
  ·rw [if_neg c4] at H
   have c4b0 : decide (a0_0 < 0) = false := decide_eq_false c4
   clear c4
   (first | rw [c4b0] | (simp only [i64_w, i32_w]; rw [c4b0]) | skip)
   by_cases c6 : a0_0 > 4611686018427387904
   ·rw [if_pos c6] at H
    have c6b0 : decide (4611686018427387904 < a0_0) = true := decide_eq_true c6
    clear c6
    have H' := Aside0.mk H
    clear H
    obtain ⟨hcz7_0, hcz7_1, hcz7_2, hcz7_3, hcz7_4, hcz7_5, hcz7_6, hfz7_0, hfz7_1, hfz7_2, hfz7_3, hfz7_4, hfz7_5, hfz7_6⟩ := cells7 BK565.out
    go_wp2
    repeat (go_quiet (fail); try go_wp2)
    go_meet
    case rel => exact ⟨_, (true), (by first | rfl | (simp; done) | (simp [*]; done)), H', ⟨by first | omega | exact Nat.le_refl _⟩, ⟨by refine upK ?_; exact BK565.out⟩, ⟨upB1 HB.out GE565.out⟩⟩
   ·rw [if_neg c6] at H
    have c6b0 : decide (4611686018427387904 < a0_0) = false := decide_eq_false c6
    clear c6
    replace H := Option.bind_eq_some_iff.mp H
    obtain ⟨t566, A80, H⟩ := H
    replace H : (if t566 = 0 then ((plinthref05_Laid.f k a0_1 a0_2 l0_3).bind fun t567 => (if t567 = true then ((plinthref06_Right.f k l0_4).bind fun t568 => (if t568 = true then ((plinthref07_Group.f k a0_5 l0_6).bind fun t569 => (plinthref07_State.j0 k (t569 != 0) a0_0 a0_1 a0_2 l0_3 l0_4 a0_5 l0_6)) else (plinthref07_State.j0 k true a0_0 a0_1 a0_2 l0_3 l0_4 a0_5 l0_6))) else (plinthref07_State.j0 k true a0_0 a0_1 a0_2 l0_3 l0_4 a0_5 l0_6))) else (plinthref07_State.j0 k true a0_0 a0_1 a0_2 l0_3 l0_4 a0_5 l0_6)) = some r := H
    have A8 := Aside0.mk A80
    clear A80
    by_cases c9 : t566 = 0
    ·rw [if_pos c9] at H
     have c9b0 : (t566 == 0) = true := beq_iff_eq.mpr c9
     have c9b1 : (t566 != 0) = false := bne_eq_false_iff_eq.mpr c9
     clear c9
     replace H := Option.bind_eq_some_iff.mp H
     obtain ⟨t567, A100, H⟩ := H
     replace H : (if t567 = true then ((plinthref06_Right.f k l0_4).bind fun t568 => (if t568 = true then ((plinthref07_Group.f k a0_5 l0_6).bind fun t569 => (plinthref07_State.j0 k (t569 != 0) a0_0 a0_1 a0_2 l0_3 l0_4 a0_5 l0_6)) else (plinthref07_State.j0 k true a0_0 a0_1 a0_2 l0_3 l0_4 a0_5 l0_6))) else (plinthref07_State.j0 k true a0_0 a0_1 a0_2 l0_3 l0_4 a0_5 l0_6)) = some r := H
     have A10 := Aside0.mk A100
     clear A100
     by_cases c11 : t567 = true
     ·subst c11
      have H1 : ((plinthref06_Right.f k l0_4).bind fun t568 => (if t568 = true then ((plinthref07_Group.f k a0_5 l0_6).bind fun t569 => (plinthref07_State.j0 k (t569 != 0) a0_0 a0_1 a0_2 l0_3 l0_4 a0_5 l0_6)) else (plinthref07_State.j0 k true a0_0 a0_1 a0_2 l0_3 l0_4 a0_5 l0_6))) = some r := by rw [if_pos rfl] at H; exact H
      clear H
      have H := H1
      clear H1
      replace H := Option.bind_eq_some_iff.mp H
      obtain ⟨t568, A120, H⟩ := H
      replace H : (if t568 = true then ((plinthref07_Group.f k a0_5 l0_6).bind fun t569 => (plinthref07_State.j0 k (t569 != 0) a0_0 a0_1 a0_2 l0_3 l0_4 a0_5 l0_6)) else (plinthref07_State.j0 k true a0_0 a0_1 a0_2 l0_3 l0_4 a0_5 l0_6)) = some r := H
      have A12 := Aside0.mk A120
      clear A120
      by_cases c13 : t568 = true
      ·subst c13
       have H1 : ((plinthref07_Group.f k a0_5 l0_6).bind fun t569 => (plinthref07_State.j0 k (t569 != 0) a0_0 a0_1 a0_2 l0_3 l0_4 a0_5 l0_6)) = some r := by rw [if_pos rfl] at H; exact H
       clear H
       have H := H1
       clear H1
       replace H := Option.bind_eq_some_iff.mp H
       obtain ⟨t569, A140, H⟩ := H
       replace H : (plinthref07_State.j0 k (t569 != 0) a0_0 a0_1 a0_2 l0_3 l0_4 a0_5 l0_6) = some r := H
       have A14 := Aside0.mk A140
       clear A140
       have H' := Aside0.mk H
       clear H
       obtain ⟨hcz15_0, hcz15_1, hcz15_2, hcz15_3, hcz15_4, hcz15_5, hcz15_6, hfz15_0, hfz15_1, hfz15_2, hfz15_3, hfz15_4, hfz15_5, hfz15_6⟩ := cells7 BK565.out
       go_wp2_with (first | (go_at_call 60; (with_reducible refine (plinthref04_Shape.calls a0_1 a0_2 t566 _ A8.out).mono ?_); rintro e w16 ⟨rfl, hb⟩; replace BK565 := Aside0.mk (blk_below (upK BK565.out) hb); replace HB := Aside0.mk (below_step (upB1 HB.out GE565.out) hb); (try clear hb); (try clear hb2); (try clear hk); (try clear hi); obtain ⟨hcz17_0, hcz17_1, hcz17_2, hcz17_3, hcz17_4, hcz17_5, hcz17_6, hfz17_0, hfz17_1, hfz17_2, hfz17_3, hfz17_4, hfz17_5, hfz17_6⟩ := cells7 BK565.out) | (go_at_call 61; (with_reducible refine (plinthref05_Laid.calls k a0_1 a0_2 _ _ l0_3 true _ ?side1 ?side2 A10.out).mono ?_); (case side1 => exact upC ((Kd.C_below HR0_3.out HB.out))); (case side2 => exact HC0_3.out); rintro e w18 ⟨rfl, hb⟩; replace BK565 := Aside0.mk (blk_below (upK BK565.out) hb); replace HB := Aside0.mk (below_step (upB1 HB.out GE565.out) hb); (try clear hb); (try clear hb2); (try clear hk); (try clear hi); obtain ⟨hcz19_0, hcz19_1, hcz19_2, hcz19_3, hcz19_4, hcz19_5, hcz19_6, hfz19_0, hfz19_1, hfz19_2, hfz19_3, hfz19_4, hfz19_5, hfz19_6⟩ := cells7 BK565.out) | (go_at_call 62; (with_reducible refine (plinthref06_Right.calls k _ _ l0_4 true _ ?side1 ?side2 A12.out).mono ?_); (case side1 => exact upC ((Kd.C_below HR0_4.out HB.out))); (case side2 => exact HC0_4.out); rintro e w20 ⟨rfl, hb⟩; replace BK565 := Aside0.mk (blk_below (upK BK565.out) hb); replace HB := Aside0.mk (below_step (upB1 HB.out GE565.out) hb); (try clear hb); (try clear hb2); (try clear hk); (try clear hi); obtain ⟨hcz21_0, hcz21_1, hcz21_2, hcz21_3, hcz21_4, hcz21_5, hcz21_6, hfz21_0, hfz21_1, hfz21_2, hfz21_3, hfz21_4, hfz21_5, hfz21_6⟩ := cells7 BK565.out) | (go_at_call 63; (with_reducible refine (plinthref07_Group.calls k a0_5 _ _ l0_6 t569 _ ?side1 ?side2 A14.out).mono ?_); (case side1 => exact upC ((Kd.C_below HR0_6.out HB.out))); (case side2 => exact HC0_6.out); rintro e w22 ⟨rfl, hb⟩; replace BK565 := Aside0.mk (blk_below (upK BK565.out) hb); replace HB := Aside0.mk (below_step (upB1 HB.out GE565.out) hb); (try clear hb); (try clear hb2); (try clear hk); (try clear hi)))
       repeat (go_quiet (first | (go_at_call 60; (with_reducible refine (plinthref04_Shape.calls a0_1 a0_2 t566 _ A8.out).mono ?_); rintro e w16 ⟨rfl, hb⟩; replace BK565 := Aside0.mk (blk_below (upK BK565.out) hb); replace HB := Aside0.mk (below_step (upB1 HB.out GE565.out) hb); (try clear hb); (try clear hb2); (try clear hk); (try clear hi); obtain ⟨hcz17_0, hcz17_1, hcz17_2, hcz17_3, hcz17_4, hcz17_5, hcz17_6, hfz17_0, hfz17_1, hfz17_2, hfz17_3, hfz17_4, hfz17_5, hfz17_6⟩ := cells7 BK565.out) | (go_at_call 61; (with_reducible refine (plinthref05_Laid.calls k a0_1 a0_2 _ _ l0_3 true _ ?side1 ?side2 A10.out).mono ?_); (case side1 => exact upC ((Kd.C_below HR0_3.out HB.out))); (case side2 => exact HC0_3.out); rintro e w18 ⟨rfl, hb⟩; replace BK565 := Aside0.mk (blk_below (upK BK565.out) hb); replace HB := Aside0.mk (below_step (upB1 HB.out GE565.out) hb); (try clear hb); (try clear hb2); (try clear hk); (try clear hi); obtain ⟨hcz19_0, hcz19_1, hcz19_2, hcz19_3, hcz19_4, hcz19_5, hcz19_6, hfz19_0, hfz19_1, hfz19_2, hfz19_3, hfz19_4, hfz19_5, hfz19_6⟩ := cells7 BK565.out) | (go_at_call 62; (with_reducible refine (plinthref06_Right.calls k _ _ l0_4 true _ ?side1 ?side2 A12.out).mono ?_); (case side1 => exact upC ((Kd.C_below HR0_4.out HB.out))); (case side2 => exact HC0_4.out); rintro e w20 ⟨rfl, hb⟩; replace BK565 := Aside0.mk (blk_below (upK BK565.out) hb); replace HB := Aside0.mk (below_step (upB1 HB.out GE565.out) hb); (try clear hb); (try clear hb2); (try clear hk); (try clear hi); obtain ⟨hcz21_0, hcz21_1, hcz21_2, hcz21_3, hcz21_4, hcz21_5, hcz21_6, hfz21_0, hfz21_1, hfz21_2, hfz21_3, hfz21_4, hfz21_5, hfz21_6⟩ := cells7 BK565.out) | (go_at_call 63; (with_reducible refine (plinthref07_Group.calls k a0_5 _ _ l0_6 t569 _ ?side1 ?side2 A14.out).mono ?_); (case side1 => exact upC ((Kd.C_below HR0_6.out HB.out))); (case side2 => exact HC0_6.out); rintro e w22 ⟨rfl, hb⟩; replace BK565 := Aside0.mk (blk_below (upK BK565.out) hb); replace HB := Aside0.mk (below_step (upB1 HB.out GE565.out) hb); (try clear hb); (try clear hb2); (try clear hk); (try clear hi))); try go_wp2_with (first | (go_at_call 60; (with_reducible refine (plinthref04_Shape.calls a0_1 a0_2 t566 _ A8.out).mono ?_); rintro e w16 ⟨rfl, hb⟩; replace BK565 := Aside0.mk (blk_below (upK BK565.out) hb); replace HB := Aside0.mk (below_step (upB1 HB.out GE565.out) hb); (try clear hb); (try clear hb2); (try clear hk); (try clear hi); obtain ⟨hcz17_0, hcz17_1, hcz17_2, hcz17_3, hcz17_4, hcz17_5, hcz17_6, hfz17_0, hfz17_1, hfz17_2, hfz17_3, hfz17_4, hfz17_5, hfz17_6⟩ := cells7 BK565.out) | (go_at_call 61; (with_reducible refine (plinthref05_Laid.calls k a0_1 a0_2 _ _ l0_3 true _ ?side1 ?side2 A10.out).mono ?_); (case side1 => exact upC ((Kd.C_below HR0_3.out HB.out))); (case side2 => exact HC0_3.out); rintro e w18 ⟨rfl, hb⟩; replace BK565 := Aside0.mk (blk_below (upK BK565.out) hb); replace HB := Aside0.mk (below_step (upB1 HB.out GE565.out) hb); (try clear hb); (try clear hb2); (try clear hk); (try clear hi); obtain ⟨hcz19_0, hcz19_1, hcz19_2, hcz19_3, hcz19_4, hcz19_5, hcz19_6, hfz19_0, hfz19_1, hfz19_2, hfz19_3, hfz19_4, hfz19_5, hfz19_6⟩ := cells7 BK565.out) | (go_at_call 62; (with_reducible refine (plinthref06_Right.calls k _ _ l0_4 true _ ?side1 ?side2 A12.out).mono ?_); (case side1 => exact upC ((Kd.C_below HR0_4.out HB.out))); (case side2 => exact HC0_4.out); rintro e w20 ⟨rfl, hb⟩; replace BK565 := Aside0.mk (blk_below (upK BK565.out) hb); replace HB := Aside0.mk (below_step (upB1 HB.out GE565.out) hb); (try clear hb); (try clear hb2); (try clear hk); (try clear hi); obtain ⟨hcz21_0, hcz21_1, hcz21_2, hcz21_3, hcz21_4, hcz21_5, hcz21_6, hfz21_0, hfz21_1, hfz21_2, hfz21_3, hfz21_4, hfz21_5, hfz21_6⟩ := cells7 BK565.out) | (go_at_call 63; (with_reducible refine (plinthref07_Group.calls k a0_5 _ _ l0_6 t569 _ ?side1 ?side2 A14.out).mono ?_); (case side1 => exact upC ((Kd.C_below HR0_6.out HB.out))); (case side2 => exact HC0_6.out); rintro e w22 ⟨rfl, hb⟩; replace BK565 := Aside0.mk (blk_below (upK BK565.out) hb); replace HB := Aside0.mk (below_step (upB1 HB.out GE565.out) hb); (try clear hb); (try clear hb2); (try clear hk); (try clear hi))))
       go_meet
       case rel => exact ⟨_, ((t569 != 0)), (by first | rfl | (simp; done) | (simp [*]; done)), H', ⟨by first | omega | exact Nat.le_refl _⟩, ⟨by refine upK ?_; exact BK565.out⟩, ⟨upB1 HB.out GE565.out⟩⟩
      ·replace c13 := Bool.eq_false_iff.mpr c13
       subst c13
       have H1 : (plinthref07_State.j0 k true a0_0 a0_1 a0_2 l0_3 l0_4 a0_5 l0_6) = some r := by rw [if_neg (show ¬ (false = true) by decide)] at H; exact H
       clear H
       have H := H1
       clear H1
       have H' := Aside0.mk H
       clear H
       obtain ⟨hcz23_0, hcz23_1, hcz23_2, hcz23_3, hcz23_4, hcz23_5, hcz23_6, hfz23_0, hfz23_1, hfz23_2, hfz23_3, hfz23_4, hfz23_5, hfz23_6⟩ := cells7 BK565.out
       go_wp2_with (first | (go_at_call 60; (with_reducible refine (plinthref04_Shape.calls a0_1 a0_2 t566 _ A8.out).mono ?_); rintro e w24 ⟨rfl, hb⟩; replace BK565 := Aside0.mk (blk_below (upK BK565.out) hb); replace HB := Aside0.mk (below_step (upB1 HB.out GE565.out) hb); (try clear hb); (try clear hb2); (try clear hk); (try clear hi); obtain ⟨hcz25_0, hcz25_1, hcz25_2, hcz25_3, hcz25_4, hcz25_5, hcz25_6, hfz25_0, hfz25_1, hfz25_2, hfz25_3, hfz25_4, hfz25_5, hfz25_6⟩ := cells7 BK565.out) | (go_at_call 61; (with_reducible refine (plinthref05_Laid.calls k a0_1 a0_2 _ _ l0_3 true _ ?side1 ?side2 A10.out).mono ?_); (case side1 => exact upC ((Kd.C_below HR0_3.out HB.out))); (case side2 => exact HC0_3.out); rintro e w26 ⟨rfl, hb⟩; replace BK565 := Aside0.mk (blk_below (upK BK565.out) hb); replace HB := Aside0.mk (below_step (upB1 HB.out GE565.out) hb); (try clear hb); (try clear hb2); (try clear hk); (try clear hi); obtain ⟨hcz27_0, hcz27_1, hcz27_2, hcz27_3, hcz27_4, hcz27_5, hcz27_6, hfz27_0, hfz27_1, hfz27_2, hfz27_3, hfz27_4, hfz27_5, hfz27_6⟩ := cells7 BK565.out) | (go_at_call 62; (with_reducible refine (plinthref06_Right.calls k _ _ l0_4 false _ ?side1 ?side2 A12.out).mono ?_); (case side1 => exact upC ((Kd.C_below HR0_4.out HB.out))); (case side2 => exact HC0_4.out); rintro e w28 ⟨rfl, hb⟩; replace BK565 := Aside0.mk (blk_below (upK BK565.out) hb); replace HB := Aside0.mk (below_step (upB1 HB.out GE565.out) hb); (try clear hb); (try clear hb2); (try clear hk); (try clear hi)))
       repeat (go_quiet (first | (go_at_call 60; (with_reducible refine (plinthref04_Shape.calls a0_1 a0_2 t566 _ A8.out).mono ?_); rintro e w24 ⟨rfl, hb⟩; replace BK565 := Aside0.mk (blk_below (upK BK565.out) hb); replace HB := Aside0.mk (below_step (upB1 HB.out GE565.out) hb); (try clear hb); (try clear hb2); (try clear hk); (try clear hi); obtain ⟨hcz25_0, hcz25_1, hcz25_2, hcz25_3, hcz25_4, hcz25_5, hcz25_6, hfz25_0, hfz25_1, hfz25_2, hfz25_3, hfz25_4, hfz25_5, hfz25_6⟩ := cells7 BK565.out) | (go_at_call 61; (with_reducible refine (plinthref05_Laid.calls k a0_1 a0_2 _ _ l0_3 true _ ?side1 ?side2 A10.out).mono ?_); (case side1 => exact upC ((Kd.C_below HR0_3.out HB.out))); (case side2 => exact HC0_3.out); rintro e w26 ⟨rfl, hb⟩; replace BK565 := Aside0.mk (blk_below (upK BK565.out) hb); replace HB := Aside0.mk (below_step (upB1 HB.out GE565.out) hb); (try clear hb); (try clear hb2); (try clear hk); (try clear hi); obtain ⟨hcz27_0, hcz27_1, hcz27_2, hcz27_3, hcz27_4, hcz27_5, hcz27_6, hfz27_0, hfz27_1, hfz27_2, hfz27_3, hfz27_4, hfz27_5, hfz27_6⟩ := cells7 BK565.out) | (go_at_call 62; (with_reducible refine (plinthref06_Right.calls k _ _ l0_4 false _ ?side1 ?side2 A12.out).mono ?_); (case side1 => exact upC ((Kd.C_below HR0_4.out HB.out))); (case side2 => exact HC0_4.out); rintro e w28 ⟨rfl, hb⟩; replace BK565 := Aside0.mk (blk_below (upK BK565.out) hb); replace HB := Aside0.mk (below_step (upB1 HB.out GE565.out) hb); (try clear hb); (try clear hb2); (try clear hk); (try clear hi))); try go_wp2_with (first | (go_at_call 60; (with_reducible refine (plinthref04_Shape.calls a0_1 a0_2 t566 _ A8.out).mono ?_); rintro e w24 ⟨rfl, hb⟩; replace BK565 := Aside0.mk (blk_below (upK BK565.out) hb); replace HB := Aside0.mk (below_step (upB1 HB.out GE565.out) hb); (try clear hb); (try clear hb2); (try clear hk); (try clear hi); obtain ⟨hcz25_0, hcz25_1, hcz25_2, hcz25_3, hcz25_4, hcz25_5, hcz25_6, hfz25_0, hfz25_1, hfz25_2, hfz25_3, hfz25_4, hfz25_5, hfz25_6⟩ := cells7 BK565.out) | (go_at_call 61; (with_reducible refine (plinthref05_Laid.calls k a0_1 a0_2 _ _ l0_3 true _ ?side1 ?side2 A10.out).mono ?_); (case side1 => exact upC ((Kd.C_below HR0_3.out HB.out))); (case side2 => exact HC0_3.out); rintro e w26 ⟨rfl, hb⟩; replace BK565 := Aside0.mk (blk_below (upK BK565.out) hb); replace HB := Aside0.mk (below_step (upB1 HB.out GE565.out) hb); (try clear hb); (try clear hb2); (try clear hk); (try clear hi); obtain ⟨hcz27_0, hcz27_1, hcz27_2, hcz27_3, hcz27_4, hcz27_5, hcz27_6, hfz27_0, hfz27_1, hfz27_2, hfz27_3, hfz27_4, hfz27_5, hfz27_6⟩ := cells7 BK565.out) | (go_at_call 62; (with_reducible refine (plinthref06_Right.calls k _ _ l0_4 false _ ?side1 ?side2 A12.out).mono ?_); (case side1 => exact upC ((Kd.C_below HR0_4.out HB.out))); (case side2 => exact HC0_4.out); rintro e w28 ⟨rfl, hb⟩; replace BK565 := Aside0.mk (blk_below (upK BK565.out) hb); replace HB := Aside0.mk (below_step (upB1 HB.out GE565.out) hb); (try clear hb); (try clear hb2); (try clear hk); (try clear hi))))
       go_meet
       case rel => exact ⟨_, (true), (by first | rfl | (simp; done) | (simp [*]; done)), H', ⟨by first | omega | exact Nat.le_refl _⟩, ⟨by refine upK ?_; exact BK565.out⟩, ⟨upB1 HB.out GE565.out⟩⟩
     ·replace c11 := Bool.eq_false_iff.mpr c11
      subst c11
      have H1 : (plinthref07_State.j0 k true a0_0 a0_1 a0_2 l0_3 l0_4 a0_5 l0_6) = some r := by rw [if_neg (show ¬ (false = true) by decide)] at H; exact H
      clear H
      have H := H1
      clear H1
      have H' := Aside0.mk H
      clear H
      obtain ⟨hcz29_0, hcz29_1, hcz29_2, hcz29_3, hcz29_4, hcz29_5, hcz29_6, hfz29_0, hfz29_1, hfz29_2, hfz29_3, hfz29_4, hfz29_5, hfz29_6⟩ := cells7 BK565.out
      go_wp2_with (first | (go_at_call 60; (with_reducible refine (plinthref04_Shape.calls a0_1 a0_2 t566 _ A8.out).mono ?_); rintro e w30 ⟨rfl, hb⟩; replace BK565 := Aside0.mk (blk_below (upK BK565.out) hb); replace HB := Aside0.mk (below_step (upB1 HB.out GE565.out) hb); (try clear hb); (try clear hb2); (try clear hk); (try clear hi); obtain ⟨hcz31_0, hcz31_1, hcz31_2, hcz31_3, hcz31_4, hcz31_5, hcz31_6, hfz31_0, hfz31_1, hfz31_2, hfz31_3, hfz31_4, hfz31_5, hfz31_6⟩ := cells7 BK565.out) | (go_at_call 61; (with_reducible refine (plinthref05_Laid.calls k a0_1 a0_2 _ _ l0_3 false _ ?side1 ?side2 A10.out).mono ?_); (case side1 => exact upC ((Kd.C_below HR0_3.out HB.out))); (case side2 => exact HC0_3.out); rintro e w32 ⟨rfl, hb⟩; replace BK565 := Aside0.mk (blk_below (upK BK565.out) hb); replace HB := Aside0.mk (below_step (upB1 HB.out GE565.out) hb); (try clear hb); (try clear hb2); (try clear hk); (try clear hi)))
      repeat (go_quiet (first | (go_at_call 60; (with_reducible refine (plinthref04_Shape.calls a0_1 a0_2 t566 _ A8.out).mono ?_); rintro e w30 ⟨rfl, hb⟩; replace BK565 := Aside0.mk (blk_below (upK BK565.out) hb); replace HB := Aside0.mk (below_step (upB1 HB.out GE565.out) hb); (try clear hb); (try clear hb2); (try clear hk); (try clear hi); obtain ⟨hcz31_0, hcz31_1, hcz31_2, hcz31_3, hcz31_4, hcz31_5, hcz31_6, hfz31_0, hfz31_1, hfz31_2, hfz31_3, hfz31_4, hfz31_5, hfz31_6⟩ := cells7 BK565.out) | (go_at_call 61; (with_reducible refine (plinthref05_Laid.calls k a0_1 a0_2 _ _ l0_3 false _ ?side1 ?side2 A10.out).mono ?_); (case side1 => exact upC ((Kd.C_below HR0_3.out HB.out))); (case side2 => exact HC0_3.out); rintro e w32 ⟨rfl, hb⟩; replace BK565 := Aside0.mk (blk_below (upK BK565.out) hb); replace HB := Aside0.mk (below_step (upB1 HB.out GE565.out) hb); (try clear hb); (try clear hb2); (try clear hk); (try clear hi))); try go_wp2_with (first | (go_at_call 60; (with_reducible refine (plinthref04_Shape.calls a0_1 a0_2 t566 _ A8.out).mono ?_); rintro e w30 ⟨rfl, hb⟩; replace BK565 := Aside0.mk (blk_below (upK BK565.out) hb); replace HB := Aside0.mk (below_step (upB1 HB.out GE565.out) hb); (try clear hb); (try clear hb2); (try clear hk); (try clear hi); obtain ⟨hcz31_0, hcz31_1, hcz31_2, hcz31_3, hcz31_4, hcz31_5, hcz31_6, hfz31_0, hfz31_1, hfz31_2, hfz31_3, hfz31_4, hfz31_5, hfz31_6⟩ := cells7 BK565.out) | (go_at_call 61; (with_reducible refine (plinthref05_Laid.calls k a0_1 a0_2 _ _ l0_3 false _ ?side1 ?side2 A10.out).mono ?_); (case side1 => exact upC ((Kd.C_below HR0_3.out HB.out))); (case side2 => exact HC0_3.out); rintro e w32 ⟨rfl, hb⟩; replace BK565 := Aside0.mk (blk_below (upK BK565.out) hb); replace HB := Aside0.mk (below_step (upB1 HB.out GE565.out) hb); (try clear hb); (try clear hb2); (try clear hk); (try clear hi))))
      go_meet
      case rel => exact ⟨_, (true), (by first | rfl | (simp; done) | (simp [*]; done)), H', ⟨by first | omega | exact Nat.le_refl _⟩, ⟨by refine upK ?_; exact BK565.out⟩, ⟨upB1 HB.out GE565.out⟩⟩
    ·rw [if_neg c9] at H
     have c9b0 : (t566 == 0) = false := beq_eq_false_iff_ne.mpr c9
     have c9b1 : (t566 != 0) = true := bne_iff_ne.mpr c9
     have H' := Aside0.mk H
     clear H
     obtain ⟨hcz33_0, hcz33_1, hcz33_2, hcz33_3, hcz33_4, hcz33_5, hcz33_6, hfz33_0, hfz33_1, hfz33_2, hfz33_3, hfz33_4, hfz33_5, hfz33_6⟩ := cells7 BK565.out
     go_wp2_with (first | (go_at_call 60; (with_reducible refine (plinthref04_Shape.calls a0_1 a0_2 t566 _ A8.out).mono ?_); rintro e w34 ⟨rfl, hb⟩; replace BK565 := Aside0.mk (blk_below (upK BK565.out) hb); replace HB := Aside0.mk (below_step (upB1 HB.out GE565.out) hb); (try clear hb); (try clear hb2); (try clear hk); (try clear hi)))
     repeat (go_quiet (first | (go_at_call 60; (with_reducible refine (plinthref04_Shape.calls a0_1 a0_2 t566 _ A8.out).mono ?_); rintro e w34 ⟨rfl, hb⟩; replace BK565 := Aside0.mk (blk_below (upK BK565.out) hb); replace HB := Aside0.mk (below_step (upB1 HB.out GE565.out) hb); (try clear hb); (try clear hb2); (try clear hk); (try clear hi))); try go_wp2_with (first | (go_at_call 60; (with_reducible refine (plinthref04_Shape.calls a0_1 a0_2 t566 _ A8.out).mono ?_); rintro e w34 ⟨rfl, hb⟩; replace BK565 := Aside0.mk (blk_below (upK BK565.out) hb); replace HB := Aside0.mk (below_step (upB1 HB.out GE565.out) hb); (try clear hb); (try clear hb2); (try clear hk); (try clear hi))))
     go_meet
     case rel => exact ⟨_, (true), (by first | rfl | (simp; done) | (simp [*]; done)), H', ⟨by first | omega | exact Nat.le_refl _⟩, ⟨by refine upK ?_; exact BK565.out⟩, ⟨upB1 HB.out GE565.out⟩⟩
 case rest =>
  clear HC2
  (try clear c1); (try clear p2); (try clear c4); (try clear c4b0); (try clear c6); (try clear c6b0); (try clear c9); (try clear c9b0); (try clear c9b1); (try clear c11); (try clear c13); (try clear hcz15_0); (try clear hcz15_1); (try clear hcz15_2); (try clear hcz15_3); (try clear hcz15_4); (try clear hcz15_5); (try clear hcz15_6); (try clear hcz17_0); (try clear hcz17_1); (try clear hcz17_2); (try clear hcz17_3); (try clear hcz17_4); (try clear hcz17_5); (try clear hcz17_6); (try clear hcz19_0); (try clear hcz19_1); (try clear hcz19_2); (try clear hcz19_3); (try clear hcz19_4); (try clear hcz19_5); (try clear hcz19_6); (try clear hcz21_0); (try clear hcz21_1); (try clear hcz21_2); (try clear hcz21_3); (try clear hcz21_4); (try clear hcz21_5); (try clear hcz21_6); (try clear hcz23_0); (try clear hcz23_1); (try clear hcz23_2); (try clear hcz23_3); (try clear hcz23_4); (try clear hcz23_5); (try clear hcz23_6); (try clear hcz25_0); (try clear hcz25_1); (try clear hcz25_2); (try clear hcz25_3); (try clear hcz25_4); (try clear hcz25_5); (try clear hcz25_6); (try clear hcz27_0); (try clear hcz27_1); (try clear hcz27_2); (try clear hcz27_3); (try clear hcz27_4); (try clear hcz27_5); (try clear hcz27_6); (try clear hcz29_0); (try clear hcz29_1); (try clear hcz29_2); (try clear hcz29_3); (try clear hcz29_4); (try clear hcz29_5); (try clear hcz29_6); (try clear hcz31_0); (try clear hcz31_1); (try clear hcz31_2); (try clear hcz31_3); (try clear hcz31_4); (try clear hcz31_5); (try clear hcz31_6); (try clear hcz33_0); (try clear hcz33_1); (try clear hcz33_2); (try clear hcz33_3); (try clear hcz33_4); (try clear hcz33_5); (try clear hcz33_6); (try clear hcz5_0); (try clear hcz5_1); (try clear hcz5_2); (try clear hcz5_3); (try clear hcz5_4); (try clear hcz5_5); (try clear hcz5_6); (try clear hcz7_0); (try clear hcz7_1); (try clear hcz7_2); (try clear hcz7_3); (try clear hcz7_4); (try clear hcz7_5); (try clear hcz7_6); (try clear hfz15_0); (try clear hfz15_1); (try clear hfz15_2); (try clear hfz15_3); (try clear hfz15_4); (try clear hfz15_5); (try clear hfz15_6); (try clear hfz17_0); (try clear hfz17_1); (try clear hfz17_2); (try clear hfz17_3); (try clear hfz17_4); (try clear hfz17_5); (try clear hfz17_6); (try clear hfz19_0); (try clear hfz19_1); (try clear hfz19_2); (try clear hfz19_3); (try clear hfz19_4); (try clear hfz19_5); (try clear hfz19_6); (try clear hfz21_0); (try clear hfz21_1); (try clear hfz21_2); (try clear hfz21_3); (try clear hfz21_4); (try clear hfz21_5); (try clear hfz21_6); (try clear hfz23_0); (try clear hfz23_1); (try clear hfz23_2); (try clear hfz23_3); (try clear hfz23_4); (try clear hfz23_5); (try clear hfz23_6); (try clear hfz25_0); (try clear hfz25_1); (try clear hfz25_2); (try clear hfz25_3); (try clear hfz25_4); (try clear hfz25_5); (try clear hfz25_6); (try clear hfz27_0); (try clear hfz27_1); (try clear hfz27_2); (try clear hfz27_3); (try clear hfz27_4); (try clear hfz27_5); (try clear hfz27_6); (try clear hfz29_0); (try clear hfz29_1); (try clear hfz29_2); (try clear hfz29_3); (try clear hfz29_4); (try clear hfz29_5); (try clear hfz29_6); (try clear hfz31_0); (try clear hfz31_1); (try clear hfz31_2); (try clear hfz31_3); (try clear hfz31_4); (try clear hfz31_5); (try clear hfz31_6); (try clear hfz33_0); (try clear hfz33_1); (try clear hfz33_2); (try clear hfz33_3); (try clear hfz33_4); (try clear hfz33_5); (try clear hfz33_6); (try clear hfz5_0); (try clear hfz5_1); (try clear hfz5_2); (try clear hfz5_3); (try clear hfz5_4); (try clear hfz5_5); (try clear hfz5_6); (try clear hfz7_0); (try clear hfz7_1); (try clear hfz7_2); (try clear hfz7_3); (try clear hfz7_4); (try clear hfz7_5); (try clear hfz7_6)
  obtain ⟨kq, x37_1, rfl, HA, HJ1, BK565, HB⟩ := hcut
  cases kq with
  | zero => exact absurd HA.out (by simp [plinthref07_State.j0])
  | succ kj1 =>
   have H := HA.out
   clear HA
   simp only [plinthref07_State.j0] at H
   by_cases c35 : x37_1 = true
   ·subst c35
    have H1 : (some 72) = some r := by rw [if_pos rfl] at H; exact H
    clear H
    have H := H1
    clear H1
    obtain rfl := Option.some.inj H
    go_wp2
    repeat (go_quiet (fail); try go_wp2)
    go_ret
    exact ⟨by first | rfl | (simp [errW_none, errW_some] <;> rfl) | (simp [*, errW_none, errW_some] <;> rfl), upB1 HB.out GE565.out⟩
   ·replace c35 := Bool.eq_false_iff.mpr c35
    subst c35
    have H1 : (plinthref07_State.l0 kj1 0 a0_0 a0_1 a0_2 l0_3 l0_4 a0_5 l0_6) = some r := by rw [if_neg (show ¬ (false = true) by decide)] at H; exact H
    clear H
    have H := H1
    clear H1
    have H' := Aside0.mk H
    clear H
    go_wp2
    repeat (go_quiet (fail); try go_wp2)
    go_loopg [3] kj1 (fun kq v3 w' => ∃ (x3_2 : Int), v3 = .int .i64 x3_2 ∧ Aside0 (plinthref07_State.l0 kq x3_2 a0_0 a0_1 a0_2 l0_3 l0_4 a0_5 l0_6 = some r) ∧ Aside0 (kq ≤ kj1) ∧ Aside0 (w'.heap[gb565]? = some (.cells #[.int .i64 a0_0, .int .i64 a0_1, .int .i64 a0_2, (.slice A0_3 l0_3.length c0_3), (.slice A0_4 l0_4.length c0_4), .int .i64 a0_5, (.slice A0_6 l0_6.length c0_6)] 69 (0, 0))) ∧ Aside0 (Below w.heap.size w w'))
    case atStart => exact ⟨(0), (by first | rfl | (simp; done) | (simp [*]; done)), H', ⟨Nat.le_refl _⟩, ⟨by refine upK ?_; exact BK565.out⟩, ⟨upB1 HB.out GE565.out⟩⟩
    case round =>
     clear H'
     (try clear c1); (try clear p2); (try clear c3); (try clear c4); (try clear c4b0); (try clear c6); (try clear c6b0); (try clear c9); (try clear c9b0); (try clear c9b1); (try clear c11); (try clear c13); (try clear c35); (try clear hcz15_0); (try clear hcz15_1); (try clear hcz15_2); (try clear hcz15_3); (try clear hcz15_4); (try clear hcz15_5); (try clear hcz15_6); (try clear hcz17_0); (try clear hcz17_1); (try clear hcz17_2); (try clear hcz17_3); (try clear hcz17_4); (try clear hcz17_5); (try clear hcz17_6); (try clear hcz19_0); (try clear hcz19_1); (try clear hcz19_2); (try clear hcz19_3); (try clear hcz19_4); (try clear hcz19_5); (try clear hcz19_6); (try clear hcz21_0); (try clear hcz21_1); (try clear hcz21_2); (try clear hcz21_3); (try clear hcz21_4); (try clear hcz21_5); (try clear hcz21_6); (try clear hcz23_0); (try clear hcz23_1); (try clear hcz23_2); (try clear hcz23_3); (try clear hcz23_4); (try clear hcz23_5); (try clear hcz23_6); (try clear hcz25_0); (try clear hcz25_1); (try clear hcz25_2); (try clear hcz25_3); (try clear hcz25_4); (try clear hcz25_5); (try clear hcz25_6); (try clear hcz27_0); (try clear hcz27_1); (try clear hcz27_2); (try clear hcz27_3); (try clear hcz27_4); (try clear hcz27_5); (try clear hcz27_6); (try clear hcz29_0); (try clear hcz29_1); (try clear hcz29_2); (try clear hcz29_3); (try clear hcz29_4); (try clear hcz29_5); (try clear hcz29_6); (try clear hcz31_0); (try clear hcz31_1); (try clear hcz31_2); (try clear hcz31_3); (try clear hcz31_4); (try clear hcz31_5); (try clear hcz31_6); (try clear hcz33_0); (try clear hcz33_1); (try clear hcz33_2); (try clear hcz33_3); (try clear hcz33_4); (try clear hcz33_5); (try clear hcz33_6); (try clear hcz5_0); (try clear hcz5_1); (try clear hcz5_2); (try clear hcz5_3); (try clear hcz5_4); (try clear hcz5_5); (try clear hcz5_6); (try clear hcz7_0); (try clear hcz7_1); (try clear hcz7_2); (try clear hcz7_3); (try clear hcz7_4); (try clear hcz7_5); (try clear hcz7_6); (try clear hfz15_0); (try clear hfz15_1); (try clear hfz15_2); (try clear hfz15_3); (try clear hfz15_4); (try clear hfz15_5); (try clear hfz15_6); (try clear hfz17_0); (try clear hfz17_1); (try clear hfz17_2); (try clear hfz17_3); (try clear hfz17_4); (try clear hfz17_5); (try clear hfz17_6); (try clear hfz19_0); (try clear hfz19_1); (try clear hfz19_2); (try clear hfz19_3); (try clear hfz19_4); (try clear hfz19_5); (try clear hfz19_6); (try clear hfz21_0); (try clear hfz21_1); (try clear hfz21_2); (try clear hfz21_3); (try clear hfz21_4); (try clear hfz21_5); (try clear hfz21_6); (try clear hfz23_0); (try clear hfz23_1); (try clear hfz23_2); (try clear hfz23_3); (try clear hfz23_4); (try clear hfz23_5); (try clear hfz23_6); (try clear hfz25_0); (try clear hfz25_1); (try clear hfz25_2); (try clear hfz25_3); (try clear hfz25_4); (try clear hfz25_5); (try clear hfz25_6); (try clear hfz27_0); (try clear hfz27_1); (try clear hfz27_2); (try clear hfz27_3); (try clear hfz27_4); (try clear hfz27_5); (try clear hfz27_6); (try clear hfz29_0); (try clear hfz29_1); (try clear hfz29_2); (try clear hfz29_3); (try clear hfz29_4); (try clear hfz29_5); (try clear hfz29_6); (try clear hfz31_0); (try clear hfz31_1); (try clear hfz31_2); (try clear hfz31_3); (try clear hfz31_4); (try clear hfz31_5); (try clear hfz31_6); (try clear hfz33_0); (try clear hfz33_1); (try clear hfz33_2); (try clear hfz33_3); (try clear hfz33_4); (try clear hfz33_5); (try clear hfz33_6); (try clear hfz5_0); (try clear hfz5_1); (try clear hfz5_2); (try clear hfz5_3); (try clear hfz5_4); (try clear hfz5_5); (try clear hfz5_6); (try clear hfz7_0); (try clear hfz7_1); (try clear hfz7_2); (try clear hfz7_3); (try clear hfz7_4); (try clear hfz7_5); (try clear hfz7_6); (try clear p2)
     obtain ⟨x3_2, rfl, HA, HK2, BK565, HB⟩ := hrel
     cases gk with
     | zero => exact absurd HA.out (by simp [plinthref07_State.l0])
     | succ k2 =>
      have H := HA.out
      clear HA
      simp only [plinthref07_State.l0] at H
      by_cases c36 : x3_2 < (l0_3.length : Int)
      ·rw [if_pos c36] at H
       have c36b0 : decide (x3_2 < (l0_3.length : Int)) = true := decide_eq_true c36
       clear c36
       by_cases c37 : 0 ≤ x3_2
       ·rw [if_pos c37] at H
        have c37b0 : decide (0 ≤ x3_2) = true := decide_eq_true c37
        clear c37
        by_cases c38 : ((rd_T39 l0_3 x3_2).f1) > a0_0
        ·rw [if_pos c38] at H
         have c38b0 : decide (a0_0 < ((rd_T39 l0_3 x3_2).f1)) = true := decide_eq_true c38
         clear c38
         obtain rfl := Option.some.inj H
         obtain ⟨hcz39_0, hcz39_1, hcz39_2, hcz39_3, hcz39_4, hcz39_5, hcz39_6, hfz39_0, hfz39_1, hfz39_2, hfz39_3, hfz39_4, hfz39_5, hfz39_6⟩ := cells7 BK565.out
         have p570 : 0 ≤ (x3_2 : Int) := of_decide_eq_true (by first | (with_reducible assumption) | assumption)
         have q570 : x3_2 < (l0_3.length : Int) := of_decide_eq_true (by first | (with_reducible assumption) | assumption)
         obtain ⟨ad570, A570_2, c570_2, e570, hx570_0, hx570_1, hx570_2, hl570_2, hi570_2⟩ := at_T39 HR0_3.out x3_2 p570 q570
         cases e570
         replace hx570_0 := (HB.out.cell (World.block_lt_of_cell? w _ hx570_0)).trans hx570_0
         replace hx570_1 := (HB.out.cell (World.block_lt_of_cell? w _ hx570_1)).trans hx570_1
         replace hx570_2 := (HB.out.cell (World.block_lt_of_cell? w _ hx570_2)).trans hx570_2
         have HR570_2 := Aside0.mk hi570_2
         have HC570_2 := Aside0.mk hl570_2
         clear hi570_2 hl570_2
         replace p570 := eq_true p570
         replace q570 := eq_true q570
         go_wp2
         repeat (go_quiet (fail); try go_wp2)
         go_ret
         exact ⟨by first | rfl | (simp [errW_none, errW_some] <;> rfl) | (simp [*, errW_none, errW_some] <;> rfl), upB1 HB.out GE565.out⟩
        ·rw [if_neg c38] at H
         have c38b0 : decide (a0_0 < ((rd_T39 l0_3 x3_2).f1)) = false := decide_eq_false c38
         clear c38
         have H' := Aside0.mk H
         clear H
         obtain ⟨hcz40_0, hcz40_1, hcz40_2, hcz40_3, hcz40_4, hcz40_5, hcz40_6, hfz40_0, hfz40_1, hfz40_2, hfz40_3, hfz40_4, hfz40_5, hfz40_6⟩ := cells7 BK565.out
         have p570 : 0 ≤ (x3_2 : Int) := of_decide_eq_true (by first | (with_reducible assumption) | assumption)
         have q570 : x3_2 < (l0_3.length : Int) := of_decide_eq_true (by first | (with_reducible assumption) | assumption)
         obtain ⟨ad570, A570_2, c570_2, e570, hx570_0, hx570_1, hx570_2, hl570_2, hi570_2⟩ := at_T39 HR0_3.out x3_2 p570 q570
         cases e570
         replace hx570_0 := (HB.out.cell (World.block_lt_of_cell? w _ hx570_0)).trans hx570_0
         replace hx570_1 := (HB.out.cell (World.block_lt_of_cell? w _ hx570_1)).trans hx570_1
         replace hx570_2 := (HB.out.cell (World.block_lt_of_cell? w _ hx570_2)).trans hx570_2
         have HR570_2 := Aside0.mk hi570_2
         have HC570_2 := Aside0.mk hl570_2
         clear hi570_2 hl570_2
         replace p570 := eq_true p570
         replace q570 := eq_true q570
         go_wp2
         repeat (go_quiet (fail); try go_wp2)
         go_roundg k2
         case measure => have := HJ1.out; have := HK2.out; omega
         case rel => exact ⟨(wrap64 (x3_2 + 1)), (by first | rfl | (simp; done) | (simp [*]; done)), H', ⟨by have := HJ1.out; have := HK2.out; omega⟩, ⟨by refine upK ?_; exact BK565.out⟩, ⟨upB1 HB.out GE565.out⟩⟩
       ·rw [if_neg c37] at H
        exact absurd H (by simp)
      ·rw [if_neg c36] at H
       have c36b0 : decide (x3_2 < (l0_3.length : Int)) = false := decide_eq_false c36
       clear c36
       obtain rfl := Option.some.inj H
       obtain ⟨hcz41_0, hcz41_1, hcz41_2, hcz41_3, hcz41_4, hcz41_5, hcz41_6, hfz41_0, hfz41_1, hfz41_2, hfz41_3, hfz41_4, hfz41_5, hfz41_6⟩ := cells7 BK565.out
       go_wp2
       repeat (go_quiet (fail); try go_wp2)
       go_ret
       exact ⟨by first | rfl | (simp [errW_none, errW_some] <;> rfl) | (simp [*, errW_none, errW_some] <;> rfl), upB1 HB.out GE565.out⟩

end Go.Proofs.Ytbmmddngadnofaa.F
