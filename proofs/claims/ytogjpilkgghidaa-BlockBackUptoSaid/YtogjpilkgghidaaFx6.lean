-- Written by ext (this session's own program).
import Derived.Test.YtogjpilkgghidaaFx0
import Derived.Test.YtogjpilkgghidaaFx4
import Derived.Test.YtogjpilkgghidaaFx5
namespace Go.Proofs.Ytogjpilkgghidaa.F
open Go.RowKit Go.Proofs.YtogjpilkgghidaaW.PrintWords Go.Proofs.YtogjpilkgghidaaW.PrintLast Go.Proofs.YtogjpilkgghidaaW.PrintMore
attribute [local go_sem] max2_int min2_int max_two min_two max_three min_three max_four min_four   -- for this text's walks alone
set_option linter.unusedVariables false
set_option linter.unusedSimpArgs false

/-! ### plinthref04_Fit: function 10 -/
mutual
def plinthref04_Fit.j0 : Nat → Int → Int → Int → Int → Int → Int → List Int → List Int → Option (Int × Int)
  | 0, _, _, _, _, _, _, _, _ => none
  | k + 1, x6, x114000, x114001, x115000, x115001, x115002, x115003, x115004 => if x6 = 0 then (if x115000 = 4 then (some (1, 0)) else (if x115000 = 5 then (if x115001 ≥ x114000 then (some (2, 0)) else (if (x115003.length : Int) = x114001 then (if (x115004.length : Int) = x114001 then (some (1, 0)) else (some (3, 0))) else (some (3, 0)))) else (if x115002 < 1 then (plinthref04_Fit.j1 k true x114000 x114001 x115000 x115001 x115002 x115003 x115004) else (if x115002 > 64 then (plinthref04_Fit.j1 k true x114000 x114001 x115000 x115001 x115002 x115003 x115004) else (plinthref04_Fit.j1 k (decide (x115001 > (wrap64 (x114000 - x115002)))) x114000 x114001 x115000 x115001 x115002 x115003 x115004))))) else (some (0, x6))
def plinthref04_Fit.j1 : Nat → Bool → Int → Int → Int → Int → Int → List Int → List Int → Option (Int × Int)
  | 0, _, _, _, _, _, _, _, _ => none
  | k + 1, x58, x114000, x114001, x115000, x115001, x115002, x115003, x115004 => if x58 = true then (some (2, 0)) else (if x115000 = 2 then (if (x115003.length : Int) = (wrap64 (x115002 * x114001)) then (some (1, 0)) else (some (3, 0))) else (some (1, 0)))
end
def plinthref04_Fit.f (k : Nat) (a0_0 : Int) (a0_1 : Int) (a1_0 : Int) (a1_1 : Int) (a1_2 : Int) (l1_3 : List Int) (l1_4 : List Int) : Option (Int × Int) := (plinthref04_Shape.f a0_0 a0_1).bind fun t115 => (if t115 = 0 then ((plinthref04_Form.f k a1_0 a1_1 a1_2 l1_3 l1_4).bind fun t116 => (plinthref04_Fit.j0 k t116 a0_0 a0_1 a1_0 a1_1 a1_2 l1_3 l1_4)) else (plinthref04_Fit.j0 k t115 a0_0 a0_1 a1_0 a1_1 a1_2 l1_3 l1_4))
theorem plinthref04_Fit.mono_l : ∀ k, (∀ y0 y1 y2 y3 y4 y5 y6 y7, LeO (plinthref04_Fit.j0 k y0 y1 y2 y3 y4 y5 y6 y7) (plinthref04_Fit.j0 (k + 1) y0 y1 y2 y3 y4 y5 y6 y7)) ∧ (∀ y0 y1 y2 y3 y4 y5 y6 y7, LeO (plinthref04_Fit.j1 k y0 y1 y2 y3 y4 y5 y6 y7) (plinthref04_Fit.j1 (k + 1) y0 y1 y2 y3 y4 y5 y6 y7))
  | 0 => ⟨fun _ _ _ _ _ _ _ _ r h => by simp [plinthref04_Fit.j0] at h, fun _ _ _ _ _ _ _ _ r h => by simp [plinthref04_Fit.j1] at h⟩
  | k + 1 => by
    obtain ⟨ih0, ih1⟩ := plinthref04_Fit.mono_l k
    refine ⟨?_, ?_⟩
    · intro y0 y1 y2 y3 y4 y5 y6 y7
      unfold plinthref04_Fit.j0
      repeat' first
      | (with_reducible exact ih0 _ _ _ _ _ _ _ _)
      | (with_reducible exact ih1 _ _ _ _ _ _ _ _)
      | (with_reducible exact plinthref04_Form.mono _ _ _ _ _ _)
      | (with_reducible exact LeO.refl _)
      | (with_reducible exact LeO.none _)
      | (with_reducible refine LeO.ite ?_ ?_)
      | (with_reducible refine LeO.bind ?_ (fun _ => ?_))
      | exact ih0 _ _ _ _ _ _ _ _
      | exact ih1 _ _ _ _ _ _ _ _
      | exact plinthref04_Form.mono _ _ _ _ _ _
      | exact LeO.none _
      | refine LeO.ite ?_ ?_
      | refine LeO.bind ?_ (fun _ => ?_)
    · intro y0 y1 y2 y3 y4 y5 y6 y7
      unfold plinthref04_Fit.j1
      repeat' first
      | (with_reducible exact ih0 _ _ _ _ _ _ _ _)
      | (with_reducible exact ih1 _ _ _ _ _ _ _ _)
      | (with_reducible exact plinthref04_Form.mono _ _ _ _ _ _)
      | (with_reducible exact LeO.refl _)
      | (with_reducible exact LeO.none _)
      | (with_reducible refine LeO.ite ?_ ?_)
      | (with_reducible refine LeO.bind ?_ (fun _ => ?_))
      | exact ih0 _ _ _ _ _ _ _ _
      | exact ih1 _ _ _ _ _ _ _ _
      | exact plinthref04_Form.mono _ _ _ _ _ _
      | exact LeO.none _
      | refine LeO.ite ?_ ?_
      | refine LeO.bind ?_ (fun _ => ?_)
theorem plinthref04_Fit.mono : ∀ a0 a1 a2 a3 a4 a5 a6 k, LeO (plinthref04_Fit.f k a0 a1 a2 a3 a4 a5 a6) (plinthref04_Fit.f (k + 1) a0 a1 a2 a3 a4 a5 a6) := by
  intro a0 a1 a2 a3 a4 a5 a6 k
  obtain ⟨ih0, ih1⟩ := plinthref04_Fit.mono_l k
  unfold plinthref04_Fit.f
  repeat' first
      | (with_reducible exact ih0 _ _ _ _ _ _ _ _)
      | (with_reducible exact ih1 _ _ _ _ _ _ _ _)
      | (with_reducible exact plinthref04_Form.mono _ _ _ _ _ _)
      | (with_reducible exact LeO.refl _)
      | (with_reducible exact LeO.none _)
      | (with_reducible refine LeO.ite ?_ ?_)
      | (with_reducible refine LeO.bind ?_ (fun _ => ?_))
      | exact ih0 _ _ _ _ _ _ _ _
      | exact ih1 _ _ _ _ _ _ _ _
      | exact plinthref04_Form.mono _ _ _ _ _ _
      | exact LeO.none _
      | refine LeO.ite ?_ ?_
      | refine LeO.bind ?_ (fun _ => ?_)
set_option maxHeartbeats 8000000 in
set_option maxRecDepth 100000 in
theorem plinthref04_Fit.calls (k : Nat) (a0_0 : Int) (a0_1 : Int) (a1_0 : Int) (a1_1 : Int) (a1_2 : Int) (A1_3 : Option Addr) (c1_3 : Nat) (l1_3 : List Int) (A1_4 : Option Addr) (c1_4 : Nat) (l1_4 : List Int) (r1 : Int) (r2 : Int) (w : World) (hr1_3 : Kd.C (Kd.int .u8) w A1_3 l1_3.length l1_3) (hc1_3 : l1_3.length ≤ c1_3) (hr1_4 : Kd.C (Kd.int .u8) w A1_4 l1_4.length l1_4) (hc1_4 : l1_4.length ≤ c1_4) (h : plinthref04_Fit.f k a0_0 a0_1 a1_0 a1_1 a1_2 l1_3 l1_4 = some (r1, r2)) :
    Calls Try.prog 10 #[.agg #[.int .i64 a0_0, .int .i64 a0_1], .agg #[.int .u8 a1_0, .int .i64 a1_1, .int .i64 a1_2, .slice A1_3 l1_3.length c1_3, .slice A1_4 l1_4.length c1_4]] w fun e w' => e = .returned (.tuple #[.int .u8 r1, .int .i64 r2]) ∧ Below w.heap.size w w' := by
  have hu23 := Try.underlying23
  have hu27 := Try.underlying27
  have HR1_3 := Aside0.mk hr1_3
  have HC1_3 := Aside0.mk hc1_3
  clear hr1_3 hc1_3
  have HR1_4 := Aside0.mk hr1_4
  have HC1_4 := Aside0.mk hc1_4
  clear hr1_4 hc1_4
  have HB := Aside0.mk (Below.refl w.heap.size w)
  have H : ((plinthref04_Shape.f a0_0 a0_1).bind fun t115 => (if t115 = 0 then ((plinthref04_Form.f k a1_0 a1_1 a1_2 l1_3 l1_4).bind fun t116 => (plinthref04_Fit.j0 k t116 a0_0 a0_1 a1_0 a1_1 a1_2 l1_3 l1_4)) else (plinthref04_Fit.j0 k t115 a0_0 a0_1 a1_0 a1_1 a1_2 l1_3 l1_4))) = some (r1, r2) := h
  clear h
  replace H := Option.bind_eq_some_iff.mp H
  obtain ⟨t115, A30, H⟩ := H
  replace H : (if t115 = 0 then ((plinthref04_Form.f k a1_0 a1_1 a1_2 l1_3 l1_4).bind fun t116 => (plinthref04_Fit.j0 k t116 a0_0 a0_1 a1_0 a1_1 a1_2 l1_3 l1_4)) else (plinthref04_Fit.j0 k t115 a0_0 a0_1 a1_0 a1_1 a1_2 l1_3 l1_4)) = some (r1, r2) := H
  have A3 := Aside0.mk A30
  clear A30
  have HC4 := Aside0.mk H
  clear H
  go_enter Try.func10, Try.ntmps10
  go_upto_if 10 with (first | ((with_reducible refine gate_dst (N := 2) rfl ?_); (try (refine gate_guard (by rfl) ?_; dsimp only)); refine box_event ?hg (N := 2) ?hd (cs := #[.int .i64 a0_0, .int .i64 a0_1]) (t := 23) ?hr ?_; (case hd => rfl); (case hg => rfl); (case hr => first | (go_simp; done) | (go_simp; rfl)); intro gb113 hg w5 hbox hb; have BK113 := Aside0.mk (hbox); have GW113 := Aside0.mk ((by rw [hg]; exact (below_size (upB0 HB.out)) : w.heap.size ≤ gb113)); have GE113 := Aside0.mk ((by rw [hg]; exact (below_size (upB0 HB.out)) : w.heap.size ≤ gb113)); replace HB := Aside0.mk (below_step (upB0 HB.out) hb); clear hb hbox hg) | ((with_reducible refine gate_dst (N := 3) rfl ?_); (try (refine gate_guard (by rfl) ?_; dsimp only)); refine box_event ?hg (N := 3) ?hd (cs := #[.int .u8 a1_0, .int .i64 a1_1, .int .i64 a1_2, .slice A1_3 l1_3.length c1_3, .slice A1_4 l1_4.length c1_4]) (t := 27) ?hr ?_; (case hd => rfl); (case hg => rfl); (case hr => first | (go_simp; done) | (go_simp; rfl)); intro gb114 hg w6 hbox hb; have BK114 := Aside0.mk (hbox); have GW114 := Aside0.mk ((by rw [hg]; exact (below_size (upB1 HB.out GE113.out)) : w.heap.size ≤ gb114)); have GE114 := Aside0.mk ((by rw [hg]; exact (below_size (upB1 HB.out GE113.out)) : w.heap.size ≤ gb114)); replace HB := Aside0.mk (below_step (upB1 HB.out GE113.out) hb); have NB113_114 := Aside0.mk ((by rw [hg]; exact Nat.ne_of_lt (blk_lt (upK BK113.out)) : gb113 ≠ gb114)); have NB114_113 := Aside0.mk ((by rw [hg]; exact Nat.ne_of_gt (blk_lt (upK BK113.out)) : gb114 ≠ gb113)); replace BK113 := Aside0.mk (blk_below (upK BK113.out) hb); clear hb hbox hg; have hnb7 := NB113_114.out; have hnc7 := NB114_113.out; obtain ⟨hcz8_0, hcz8_1, hfz8_0, hfz8_1⟩ := cells2 BK113.out) | ((with_reducible refine gate_callee (f := 18) rfl ?_); refine goesL_ (some 8) rfl rfl Try.func18 (by kernel_rfl) rfl #[.agg #[.int .i64 a0_0, .int .i64 a0_1]] rfl argA ?_; (with_reducible refine (plinthref04_Shape.calls a0_0 a0_1 t115 _ A3.out).mono ?_); rintro e w9 ⟨rfl, hb⟩; refine ⟨_, rfl, ?_⟩; replace BK113 := Aside0.mk (blk_below (upK BK113.out) hb); replace BK114 := Aside0.mk (blk_below (upK BK114.out) hb); replace HB := Aside0.mk (below_step (upB2 HB.out GE113.out GE114.out) hb); (try clear hb); (try clear hb2); (try clear hk); (try clear hi)))
  (try simp only [Act.put, List.setIfInBounds_toArray, List.set_cons_zero, List.set_cons_succ])
  go_cut [6] (fun v6 wc => ∃ (kq : Nat) (x6_3 : Int), v6 = .int .i64 x6_3 ∧ Aside0 (plinthref04_Fit.j0 kq x6_3 a0_0 a0_1 a1_0 a1_1 a1_2 l1_3 l1_4 = some (r1, r2)) ∧ Aside0 (kq ≤ k) ∧ Aside0 (wc.heap[gb113]? = some (.cells #[.int .i64 a0_0, .int .i64 a0_1] 23 (0, 0))) ∧ Aside0 (wc.heap[gb114]? = some (.cells #[.int .u8 a1_0, .int .i64 a1_1, .int .i64 a1_2, (.slice A1_3 l1_3.length c1_3), (.slice A1_4 l1_4.length c1_4)] 27 (0, 0))) ∧ Aside0 (Below w.heap.size w wc))
  case first =>
    have H := HC4.out
    clear HC4
    by_cases c10 : t115 = 0
    · rw [if_pos c10] at H
      have c10b0 : (t115 == 0) = true := beq_iff_eq.mpr c10
      have c10b1 : (t115 != 0) = false := bne_eq_false_iff_eq.mpr c10
      clear c10
      (first | rw [c10b0] | (simp only [i64_w, i32_w]; rw [c10b0]) | skip)
      replace H := Option.bind_eq_some_iff.mp H
      obtain ⟨t116, A110, H⟩ := H
      replace H : (plinthref04_Fit.j0 k t116 a0_0 a0_1 a1_0 a1_1 a1_2 l1_3 l1_4) = some (r1, r2) := H
      have A11 := Aside0.mk A110
      clear A110
      have H' := Aside0.mk H
      clear H
      have hnb12 := NB114_113.out
      have hnc12 := NB113_114.out
      obtain ⟨hcz13_0, hcz13_1, hcz13_2, hcz13_3, hcz13_4, hfz13_0, hfz13_1, hfz13_2, hfz13_3, hfz13_4⟩ := cells5 BK114.out
      go_wp2_with (first | ((with_reducible refine gate_callee (f := 20) rfl ?_); refine goesL_ (some 12) rfl rfl Try.func20 (by kernel_rfl) rfl #[.agg #[.int .u8 a1_0, .int .i64 a1_1, .int .i64 a1_2, .slice A1_3 l1_3.length c1_3, .slice A1_4 l1_4.length c1_4]] rfl argA ?_; (with_reducible refine (plinthref04_Form.calls k a1_0 a1_1 a1_2 _ _ l1_3 _ _ l1_4 t116 _ ?side1 ?side2 ?side3 ?side4 A11.out).mono ?_); (case side1 => exact upC ((Kd.C_below HR1_3.out HB.out))); (case side2 => exact HC1_3.out); (case side3 => exact upC ((Kd.C_below HR1_4.out HB.out))); (case side4 => exact HC1_4.out); rintro e w14 ⟨rfl, hb⟩; refine ⟨_, rfl, ?_⟩; replace BK113 := Aside0.mk (blk_below (upK BK113.out) hb); replace BK114 := Aside0.mk (blk_below (upK BK114.out) hb); replace HB := Aside0.mk (below_step (upB2 HB.out GE113.out GE114.out) hb); (try clear hb); (try clear hb2); (try clear hk); (try clear hi)))
      go_meet
      case rel => exact ⟨_, (t116), (by first | rfl | (simp; done) | (simp [*]; done)), H', ⟨by first | omega | exact Nat.le_refl _⟩, ⟨by refine upK ?_; exact BK113.out⟩, ⟨by refine upK ?_; exact BK114.out⟩, ⟨upB2 HB.out GE113.out GE114.out⟩⟩
    · rw [if_neg c10] at H
      have c10b0 : (t115 == 0) = false := beq_eq_false_iff_ne.mpr c10
      have c10b1 : (t115 != 0) = true := bne_iff_ne.mpr c10
      (first | rw [c10b0] | (simp only [i64_w, i32_w]; rw [c10b0]) | skip)
      have H' := Aside0.mk H
      clear H
      go_wp2
      go_meet
      case rel => exact ⟨_, (t115), (by first | rfl | (simp; done) | (simp [*]; done)), H', ⟨by first | omega | exact Nat.le_refl _⟩, ⟨by refine upK ?_; exact BK113.out⟩, ⟨by refine upK ?_; exact BK114.out⟩, ⟨upB2 HB.out GE113.out GE114.out⟩⟩
  case rest =>
    clear HC4
    try clear c1
    try clear c2
    try clear p2
    try clear c7
    try clear c10
    try clear c10b0
    try clear c10b1
    try clear c12
    try clear hcz13_0
    try clear hcz13_1
    try clear hcz13_2
    try clear hcz13_3
    try clear hcz13_4
    try clear hcz8_0
    try clear hcz8_1
    try clear hfz13_0
    try clear hfz13_1
    try clear hfz13_2
    try clear hfz13_3
    try clear hfz13_4
    try clear hfz8_0
    try clear hfz8_1
    obtain ⟨kq, x6_3, rfl, HA, HJ3, BK113, BK114, HB⟩ := hcut
    cases kq with
    | zero => exact absurd HA.out (by simp [plinthref04_Fit.j0])
    | succ kj3 =>
      have H := HA.out
      clear HA
      simp only [plinthref04_Fit.j0] at H
      by_cases c15 : x6_3 = 0
      · rw [if_pos c15] at H
        have c15b0 : (x6_3 == 0) = true := beq_iff_eq.mpr c15
        have c15b1 : (x6_3 != 0) = false := bne_eq_false_iff_eq.mpr c15
        clear c15
        by_cases c16 : a1_0 = 4
        · rw [if_pos c16] at H
          have c16b0 : (a1_0 == 4) = true := beq_iff_eq.mpr c16
          have c16b1 : (a1_0 != 4) = false := bne_eq_false_iff_eq.mpr c16
          clear c16
          simp only [Option.some.injEq, Prod.mk.injEq] at H
          obtain ⟨rfl, rfl⟩ := H
          have hnb17 := NB114_113.out
          have hnc17 := NB113_114.out
          obtain ⟨hcz18_0, hcz18_1, hcz18_2, hcz18_3, hcz18_4, hfz18_0, hfz18_1, hfz18_2, hfz18_3, hfz18_4⟩ := cells5 BK114.out
          go_wp2
          go_ret2
          exact ⟨by first | rfl | (simp [errW_none, errW_some] <;> rfl) | (simp [*, errW_none, errW_some] <;> rfl), upB2 HB.out GE113.out GE114.out⟩
        · rw [if_neg c16] at H
          have c16b0 : (a1_0 == 4) = false := beq_eq_false_iff_ne.mpr c16
          have c16b1 : (a1_0 != 4) = true := bne_iff_ne.mpr c16
          by_cases c19 : a1_0 = 5
          · rw [if_pos c19] at H
            have c19b0 : (a1_0 == 5) = true := beq_iff_eq.mpr c19
            have c19b1 : (a1_0 != 5) = false := bne_eq_false_iff_eq.mpr c19
            clear c19
            by_cases c20 : a1_1 ≥ a0_0
            · rw [if_pos c20] at H
              have c20b0 : decide (a0_0 ≤ a1_1) = true := decide_eq_true c20
              clear c20
              simp only [Option.some.injEq, Prod.mk.injEq] at H
              obtain ⟨rfl, rfl⟩ := H
              have hnb21 := NB114_113.out
              have hnc21 := NB113_114.out
              obtain ⟨hcz22_0, hcz22_1, hcz22_2, hcz22_3, hcz22_4, hfz22_0, hfz22_1, hfz22_2, hfz22_3, hfz22_4⟩ := cells5 BK114.out
              obtain ⟨hcz23_0, hcz23_1, hfz23_0, hfz23_1⟩ := cells2 BK113.out
              go_wp2
              go_ret2
              exact ⟨by first | rfl | (simp [errW_none, errW_some] <;> rfl) | (simp [*, errW_none, errW_some] <;> rfl), upB2 HB.out GE113.out GE114.out⟩
            · rw [if_neg c20] at H
              have c20b0 : decide (a0_0 ≤ a1_1) = false := decide_eq_false c20
              clear c20
              by_cases c24 : (l1_3.length : Int) = a0_1
              · rw [if_pos c24] at H
                have c24b0 : ((l1_3.length : Int) == a0_1) = true := beq_iff_eq.mpr c24
                have c24b1 : ((l1_3.length : Int) != a0_1) = false := bne_eq_false_iff_eq.mpr c24
                clear c24
                by_cases c25 : (l1_4.length : Int) = a0_1
                · rw [if_pos c25] at H
                  have c25b0 : ((l1_4.length : Int) == a0_1) = true := beq_iff_eq.mpr c25
                  have c25b1 : ((l1_4.length : Int) != a0_1) = false := bne_eq_false_iff_eq.mpr c25
                  clear c25
                  simp only [Option.some.injEq, Prod.mk.injEq] at H
                  obtain ⟨rfl, rfl⟩ := H
                  have hnb26 := NB114_113.out
                  have hnc26 := NB113_114.out
                  obtain ⟨hcz27_0, hcz27_1, hcz27_2, hcz27_3, hcz27_4, hfz27_0, hfz27_1, hfz27_2, hfz27_3, hfz27_4⟩ := cells5 BK114.out
                  obtain ⟨hcz28_0, hcz28_1, hfz28_0, hfz28_1⟩ := cells2 BK113.out
                  go_wp2
                  go_ret2
                  exact ⟨by first | rfl | (simp [errW_none, errW_some] <;> rfl) | (simp [*, errW_none, errW_some] <;> rfl), upB2 HB.out GE113.out GE114.out⟩
                · rw [if_neg c25] at H
                  have c25b0 : ((l1_4.length : Int) == a0_1) = false := beq_eq_false_iff_ne.mpr c25
                  have c25b1 : ((l1_4.length : Int) != a0_1) = true := bne_iff_ne.mpr c25
                  simp only [Option.some.injEq, Prod.mk.injEq] at H
                  obtain ⟨rfl, rfl⟩ := H
                  have hnb29 := NB114_113.out
                  have hnc29 := NB113_114.out
                  obtain ⟨hcz30_0, hcz30_1, hcz30_2, hcz30_3, hcz30_4, hfz30_0, hfz30_1, hfz30_2, hfz30_3, hfz30_4⟩ := cells5 BK114.out
                  obtain ⟨hcz31_0, hcz31_1, hfz31_0, hfz31_1⟩ := cells2 BK113.out
                  go_wp2
                  go_ret2
                  exact ⟨by first | rfl | (simp [errW_none, errW_some] <;> rfl) | (simp [*, errW_none, errW_some] <;> rfl), upB2 HB.out GE113.out GE114.out⟩
              · rw [if_neg c24] at H
                have c24b0 : ((l1_3.length : Int) == a0_1) = false := beq_eq_false_iff_ne.mpr c24
                have c24b1 : ((l1_3.length : Int) != a0_1) = true := bne_iff_ne.mpr c24
                simp only [Option.some.injEq, Prod.mk.injEq] at H
                obtain ⟨rfl, rfl⟩ := H
                have hnb32 := NB114_113.out
                have hnc32 := NB113_114.out
                obtain ⟨hcz33_0, hcz33_1, hcz33_2, hcz33_3, hcz33_4, hfz33_0, hfz33_1, hfz33_2, hfz33_3, hfz33_4⟩ := cells5 BK114.out
                obtain ⟨hcz34_0, hcz34_1, hfz34_0, hfz34_1⟩ := cells2 BK113.out
                go_wp2
                go_ret2
                exact ⟨by first | rfl | (simp [errW_none, errW_some] <;> rfl) | (simp [*, errW_none, errW_some] <;> rfl), upB2 HB.out GE113.out GE114.out⟩
          · rw [if_neg c19] at H
            have c19b0 : (a1_0 == 5) = false := beq_eq_false_iff_ne.mpr c19
            have c19b1 : (a1_0 != 5) = true := bne_iff_ne.mpr c19
            have HC35 := Aside0.mk H
            clear H
            have hnb36 := NB114_113.out
            have hnc36 := NB113_114.out
            obtain ⟨hcz37_0, hcz37_1, hcz37_2, hcz37_3, hcz37_4, hfz37_0, hfz37_1, hfz37_2, hfz37_3, hfz37_4⟩ := cells5 BK114.out
            go_upto_region 15 with (fail)
            go_cut [58] (fun v58 wc => ∃ (kq : Nat) (x58_34 : Bool), v58 = .bool x58_34 ∧ Aside0 (plinthref04_Fit.j1 kq x58_34 a0_0 a0_1 a1_0 a1_1 a1_2 l1_3 l1_4 = some (r1, r2)) ∧ Aside0 (kq ≤ kj3) ∧ Aside0 (wc.heap[gb113]? = some (.cells #[.int .i64 a0_0, .int .i64 a0_1] 23 (0, 0))) ∧ Aside0 (wc.heap[gb114]? = some (.cells #[.int .u8 a1_0, .int .i64 a1_1, .int .i64 a1_2, (.slice A1_3 l1_3.length c1_3), (.slice A1_4 l1_4.length c1_4)] 27 (0, 0))) ∧ Aside0 (Below w.heap.size w wc))
            case first =>
              have H := HC35.out
              clear HC35
              by_cases c38 : a1_2 < 1
              · rw [if_pos c38] at H
                have c38b0 : decide (a1_2 < 1) = true := decide_eq_true c38
                clear c38
                (first | rw [c38b0] | (simp only [i64_w, i32_w]; rw [c38b0]) | skip)
                have H' := Aside0.mk H
                clear H
                have hnb39 := NB114_113.out
                have hnc39 := NB113_114.out
                obtain ⟨hcz40_0, hcz40_1, hcz40_2, hcz40_3, hcz40_4, hfz40_0, hfz40_1, hfz40_2, hfz40_3, hfz40_4⟩ := cells5 BK114.out
                go_wp2
                go_meet
                case rel => exact ⟨_, (true), (by first | rfl | (simp; done) | (simp [*]; done)), H', ⟨by have := HJ3.out; first | omega | exact Nat.le_refl _⟩, ⟨by refine upK ?_; exact BK113.out⟩, ⟨by refine upK ?_; exact BK114.out⟩, ⟨upB2 HB.out GE113.out GE114.out⟩⟩
              · rw [if_neg c38] at H
                have c38b0 : decide (a1_2 < 1) = false := decide_eq_false c38
                clear c38
                (first | rw [c38b0] | (simp only [i64_w, i32_w]; rw [c38b0]) | skip)
                by_cases c41 : a1_2 > 64
                · rw [if_pos c41] at H
                  have c41b0 : decide (64 < a1_2) = true := decide_eq_true c41
                  clear c41
                  have H' := Aside0.mk H
                  clear H
                  have hnb42 := NB114_113.out
                  have hnc42 := NB113_114.out
                  obtain ⟨hcz43_0, hcz43_1, hcz43_2, hcz43_3, hcz43_4, hfz43_0, hfz43_1, hfz43_2, hfz43_3, hfz43_4⟩ := cells5 BK114.out
                  go_wp2
                  go_meet
                  case rel => exact ⟨_, (true), (by first | rfl | (simp; done) | (simp [*]; done)), H', ⟨by have := HJ3.out; first | omega | exact Nat.le_refl _⟩, ⟨by refine upK ?_; exact BK113.out⟩, ⟨by refine upK ?_; exact BK114.out⟩, ⟨upB2 HB.out GE113.out GE114.out⟩⟩
                · rw [if_neg c41] at H
                  have c41b0 : decide (64 < a1_2) = false := decide_eq_false c41
                  clear c41
                  have H' := Aside0.mk H
                  clear H
                  have hnb44 := NB114_113.out
                  have hnc44 := NB113_114.out
                  obtain ⟨hcz45_0, hcz45_1, hcz45_2, hcz45_3, hcz45_4, hfz45_0, hfz45_1, hfz45_2, hfz45_3, hfz45_4⟩ := cells5 BK114.out
                  obtain ⟨hcz46_0, hcz46_1, hfz46_0, hfz46_1⟩ := cells2 BK113.out
                  go_wp2
                  go_meet
                  case rel => exact ⟨_, (decide (a1_1 > (wrap64 (a0_0 - a1_2)))), (by first | rfl | (simp; done) | (simp [*]; done)), H', ⟨by have := HJ3.out; first | omega | exact Nat.le_refl _⟩, ⟨by refine upK ?_; exact BK113.out⟩, ⟨by refine upK ?_; exact BK114.out⟩, ⟨upB2 HB.out GE113.out GE114.out⟩⟩
            case rest =>
              clear HC35
              try clear c1
              try clear c2
              try clear p2
              try clear c3
              try clear c4
              try clear p6
              try clear c7
              try clear c10
              try clear c10b0
              try clear c10b1
              try clear c12
              try clear c15
              try clear c15b0
              try clear c15b1
              try clear c16
              try clear c16b0
              try clear c16b1
              try clear c17
              try clear c18
              try clear c19
              try clear c19b0
              try clear c19b1
              try clear c20
              try clear c20b0
              try clear c21
              try clear c24
              try clear c24b0
              try clear c24b1
              try clear c25
              try clear c25b0
              try clear c25b1
              try clear c26
              try clear c29
              try clear c32
              try clear c36
              try clear c38
              try clear c38b0
              try clear c39
              try clear c41
              try clear c41b0
              try clear c42
              try clear c44
              try clear hcz13_0
              try clear hcz13_1
              try clear hcz13_2
              try clear hcz13_3
              try clear hcz13_4
              try clear hcz18_0
              try clear hcz18_1
              try clear hcz18_2
              try clear hcz18_3
              try clear hcz18_4
              try clear hcz22_0
              try clear hcz22_1
              try clear hcz22_2
              try clear hcz22_3
              try clear hcz22_4
              try clear hcz23_0
              try clear hcz23_1
              try clear hcz27_0
              try clear hcz27_1
              try clear hcz27_2
              try clear hcz27_3
              try clear hcz27_4
              try clear hcz28_0
              try clear hcz28_1
              try clear hcz30_0
              try clear hcz30_1
              try clear hcz30_2
              try clear hcz30_3
              try clear hcz30_4
              try clear hcz31_0
              try clear hcz31_1
              try clear hcz33_0
              try clear hcz33_1
              try clear hcz33_2
              try clear hcz33_3
              try clear hcz33_4
              try clear hcz34_0
              try clear hcz34_1
              try clear hcz37_0
              try clear hcz37_1
              try clear hcz37_2
              try clear hcz37_3
              try clear hcz37_4
              try clear hcz40_0
              try clear hcz40_1
              try clear hcz40_2
              try clear hcz40_3
              try clear hcz40_4
              try clear hcz43_0
              try clear hcz43_1
              try clear hcz43_2
              try clear hcz43_3
              try clear hcz43_4
              try clear hcz45_0
              try clear hcz45_1
              try clear hcz45_2
              try clear hcz45_3
              try clear hcz45_4
              try clear hcz46_0
              try clear hcz46_1
              try clear hcz8_0
              try clear hcz8_1
              try clear hfz13_0
              try clear hfz13_1
              try clear hfz13_2
              try clear hfz13_3
              try clear hfz13_4
              try clear hfz18_0
              try clear hfz18_1
              try clear hfz18_2
              try clear hfz18_3
              try clear hfz18_4
              try clear hfz22_0
              try clear hfz22_1
              try clear hfz22_2
              try clear hfz22_3
              try clear hfz22_4
              try clear hfz23_0
              try clear hfz23_1
              try clear hfz27_0
              try clear hfz27_1
              try clear hfz27_2
              try clear hfz27_3
              try clear hfz27_4
              try clear hfz28_0
              try clear hfz28_1
              try clear hfz30_0
              try clear hfz30_1
              try clear hfz30_2
              try clear hfz30_3
              try clear hfz30_4
              try clear hfz31_0
              try clear hfz31_1
              try clear hfz33_0
              try clear hfz33_1
              try clear hfz33_2
              try clear hfz33_3
              try clear hfz33_4
              try clear hfz34_0
              try clear hfz34_1
              try clear hfz37_0
              try clear hfz37_1
              try clear hfz37_2
              try clear hfz37_3
              try clear hfz37_4
              try clear hfz40_0
              try clear hfz40_1
              try clear hfz40_2
              try clear hfz40_3
              try clear hfz40_4
              try clear hfz43_0
              try clear hfz43_1
              try clear hfz43_2
              try clear hfz43_3
              try clear hfz43_4
              try clear hfz45_0
              try clear hfz45_1
              try clear hfz45_2
              try clear hfz45_3
              try clear hfz45_4
              try clear hfz46_0
              try clear hfz46_1
              try clear hfz8_0
              try clear hfz8_1
              try clear p2
              obtain ⟨kq, x58_34, rfl, HA, HJ34, BK113, BK114, HB⟩ := hcut
              cases kq with
              | zero => exact absurd HA.out (by simp [plinthref04_Fit.j1])
              | succ kj34 =>
                have H := HA.out
                clear HA
                simp only [plinthref04_Fit.j1] at H
                by_cases c47 : x58_34 = true
                · subst c47
                  have H1 : (some (2, 0)) = some (r1, r2) := by rw [if_pos rfl] at H; exact H
                  clear H
                  have H := H1
                  clear H1
                  simp only [Option.some.injEq, Prod.mk.injEq] at H
                  obtain ⟨rfl, rfl⟩ := H
                  go_wp2
                  go_ret2
                  exact ⟨by first | rfl | (simp [errW_none, errW_some] <;> rfl) | (simp [*, errW_none, errW_some] <;> rfl), upB2 HB.out GE113.out GE114.out⟩
                · replace c47 := Bool.eq_false_iff.mpr c47
                  subst c47
                  have H1 : (if a1_0 = 2 then (if (l1_3.length : Int) = (wrap64 (a1_2 * a0_1)) then (some (1, 0)) else (some (3, 0))) else (some (1, 0))) = some (r1, r2) := by rw [if_neg (show ¬ (false = true) by decide)] at H; exact H
                  clear H
                  have H := H1
                  clear H1
                  by_cases c48 : a1_0 = 2
                  · rw [if_pos c48] at H
                    have c48b0 : (a1_0 == 2) = true := beq_iff_eq.mpr c48
                    have c48b1 : (a1_0 != 2) = false := bne_eq_false_iff_eq.mpr c48
                    clear c48
                    by_cases c49 : (l1_3.length : Int) = (wrap64 (a1_2 * a0_1))
                    · rw [if_pos c49] at H
                      have c49b0 : ((l1_3.length : Int) == (wrap64 (a1_2 * a0_1))) = true := beq_iff_eq.mpr c49
                      have c49b1 : ((l1_3.length : Int) != (wrap64 (a1_2 * a0_1))) = false := bne_eq_false_iff_eq.mpr c49
                      clear c49
                      simp only [Option.some.injEq, Prod.mk.injEq] at H
                      obtain ⟨rfl, rfl⟩ := H
                      have hnb50 := NB114_113.out
                      have hnc50 := NB113_114.out
                      obtain ⟨hcz51_0, hcz51_1, hcz51_2, hcz51_3, hcz51_4, hfz51_0, hfz51_1, hfz51_2, hfz51_3, hfz51_4⟩ := cells5 BK114.out
                      obtain ⟨hcz52_0, hcz52_1, hfz52_0, hfz52_1⟩ := cells2 BK113.out
                      go_wp2
                      go_ret2
                      exact ⟨by first | rfl | (simp [errW_none, errW_some] <;> rfl) | (simp [*, errW_none, errW_some] <;> rfl), upB2 HB.out GE113.out GE114.out⟩
                    · rw [if_neg c49] at H
                      have c49b0 : ((l1_3.length : Int) == (wrap64 (a1_2 * a0_1))) = false := beq_eq_false_iff_ne.mpr c49
                      have c49b1 : ((l1_3.length : Int) != (wrap64 (a1_2 * a0_1))) = true := bne_iff_ne.mpr c49
                      simp only [Option.some.injEq, Prod.mk.injEq] at H
                      obtain ⟨rfl, rfl⟩ := H
                      have hnb53 := NB114_113.out
                      have hnc53 := NB113_114.out
                      obtain ⟨hcz54_0, hcz54_1, hcz54_2, hcz54_3, hcz54_4, hfz54_0, hfz54_1, hfz54_2, hfz54_3, hfz54_4⟩ := cells5 BK114.out
                      obtain ⟨hcz55_0, hcz55_1, hfz55_0, hfz55_1⟩ := cells2 BK113.out
                      go_wp2
                      go_ret2
                      exact ⟨by first | rfl | (simp [errW_none, errW_some] <;> rfl) | (simp [*, errW_none, errW_some] <;> rfl), upB2 HB.out GE113.out GE114.out⟩
                  · rw [if_neg c48] at H
                    have c48b0 : (a1_0 == 2) = false := beq_eq_false_iff_ne.mpr c48
                    have c48b1 : (a1_0 != 2) = true := bne_iff_ne.mpr c48
                    simp only [Option.some.injEq, Prod.mk.injEq] at H
                    obtain ⟨rfl, rfl⟩ := H
                    have hnb56 := NB114_113.out
                    have hnc56 := NB113_114.out
                    obtain ⟨hcz57_0, hcz57_1, hcz57_2, hcz57_3, hcz57_4, hfz57_0, hfz57_1, hfz57_2, hfz57_3, hfz57_4⟩ := cells5 BK114.out
                    go_wp2
                    go_ret2
                    exact ⟨by first | rfl | (simp [errW_none, errW_some] <;> rfl) | (simp [*, errW_none, errW_some] <;> rfl), upB2 HB.out GE113.out GE114.out⟩
      · rw [if_neg c15] at H
        have c15b0 : (x6_3 == 0) = false := beq_eq_false_iff_ne.mpr c15
        have c15b1 : (x6_3 != 0) = true := bne_iff_ne.mpr c15
        simp only [Option.some.injEq, Prod.mk.injEq] at H
        obtain ⟨rfl, rfl⟩ := H
        go_wp2
        go_ret2
        exact ⟨by first | rfl | (simp [errW_none, errW_some] <;> rfl) | (simp [*, errW_none, errW_some] <;> rfl), upB2 HB.out GE113.out GE114.out⟩

end Go.Proofs.Ytogjpilkgghidaa.F
