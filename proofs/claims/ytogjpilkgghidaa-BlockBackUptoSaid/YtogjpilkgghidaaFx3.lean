-- Written by ext (this session's own program).
import Derived.Test.YtogjpilkgghidaaFx0
import Derived.Test.YtogjpilkgghidaaFx1
import Derived.Test.YtogjpilkgghidaaFx2
namespace Go.Proofs.Ytogjpilkgghidaa.F
open Go.RowKit Go.Proofs.YtogjpilkgghidaaW.PrintWords Go.Proofs.YtogjpilkgghidaaW.PrintLast Go.Proofs.YtogjpilkgghidaaW.PrintMore
attribute [local go_sem] max2_int min2_int max_two min_two max_three min_three max_four min_four   -- for this text's walks alone
set_option linter.unusedVariables false
set_option linter.unusedSimpArgs false

/-! ### block_Fit: function 9 -/
mutual
def block_Fit.j0 : Nat → Int → Int → Int → Int → Int → Int → List Int → List Int → Option (Int × Int)
  | 0, _, _, _, _, _, _, _, _ => none
  | k + 1, x8, x107000, x107001, x108000, x108001, x108002, x108003, x108004 => if x8 < 1 then (block_Fit.j1 k x8 true x107000 x107001 x108000 x108001 x108002 x108003 x108004) else (if x8 > 64 then (block_Fit.j1 k x8 true x107000 x107001 x108000 x108001 x108002 x108003 x108004) else (block_Fit.j1 k x8 (decide (x108001 > (wrap64 (x107000 - x8)))) x107000 x107001 x108000 x108001 x108002 x108003 x108004))
def block_Fit.j1 : Nat → Int → Bool → Int → Int → Int → Int → Int → List Int → List Int → Option (Int × Int)
  | 0, _, _, _, _, _, _, _, _, _ => none
  | k + 1, x8, x41, x107000, x107001, x108000, x108001, x108002, x108003, x108004 => if x41 = true then (some (2, 0)) else ((block_Changes.f x108000 x108001 x108002 x108003 x108004).bind fun t110 => (if t110 = true then (if x108000 = 3 then (if x108000 = 5 then (if (x108004.length : Int) = x107001 then (some (1, 0)) else (some (3, 0))) else (some (1, 0))) else (if (x108003.length : Int) = (wrap64 (x8 * x107001)) then (if x108000 = 5 then (if (x108004.length : Int) = x107001 then (some (1, 0)) else (some (3, 0))) else (some (1, 0))) else (some (3, 0)))) else (if x108000 = 5 then (if (x108004.length : Int) = x107001 then (some (1, 0)) else (some (3, 0))) else (some (1, 0)))))
end
def block_Fit.f (k : Nat) (a0_0 : Int) (a0_1 : Int) (a1_0 : Int) (a1_1 : Int) (a1_2 : Int) (l1_3 : List Int) (l1_4 : List Int) : Option (Int × Int) := (block_Shape.f a0_0 a0_1).bind fun t108 => (if t108 = 0 then ((block_Form.f a1_0 a1_1 a1_2 l1_3 l1_4).bind fun t109 => (if t109 = 0 then (if a1_0 = 4 then (some (1, 0)) else (if a1_0 = 5 then (block_Fit.j0 k 1 a0_0 a0_1 a1_0 a1_1 a1_2 l1_3 l1_4) else (block_Fit.j0 k a1_2 a0_0 a0_1 a1_0 a1_1 a1_2 l1_3 l1_4))) else (some (0, t109)))) else (some (0, t108)))
theorem block_Fit.mono_l : ∀ k, (∀ y0 y1 y2 y3 y4 y5 y6 y7, LeO (block_Fit.j0 k y0 y1 y2 y3 y4 y5 y6 y7) (block_Fit.j0 (k + 1) y0 y1 y2 y3 y4 y5 y6 y7)) ∧ (∀ y0 y1 y2 y3 y4 y5 y6 y7 y8, LeO (block_Fit.j1 k y0 y1 y2 y3 y4 y5 y6 y7 y8) (block_Fit.j1 (k + 1) y0 y1 y2 y3 y4 y5 y6 y7 y8))
  | 0 => ⟨fun _ _ _ _ _ _ _ _ r h => by simp [block_Fit.j0] at h, fun _ _ _ _ _ _ _ _ _ r h => by simp [block_Fit.j1] at h⟩
  | k + 1 => by
    obtain ⟨ih0, ih1⟩ := block_Fit.mono_l k
    refine ⟨?_, ?_⟩
    · intro y0 y1 y2 y3 y4 y5 y6 y7
      unfold block_Fit.j0
      repeat' first
      | (with_reducible exact ih0 _ _ _ _ _ _ _ _)
      | (with_reducible exact ih1 _ _ _ _ _ _ _ _ _)
      | (with_reducible exact LeO.refl _)
      | (with_reducible exact LeO.none _)
      | (with_reducible refine LeO.ite ?_ ?_)
      | (with_reducible refine LeO.bind ?_ (fun _ => ?_))
      | exact ih0 _ _ _ _ _ _ _ _
      | exact ih1 _ _ _ _ _ _ _ _ _
      | exact LeO.none _
      | refine LeO.ite ?_ ?_
      | refine LeO.bind ?_ (fun _ => ?_)
    · intro y0 y1 y2 y3 y4 y5 y6 y7 y8
      unfold block_Fit.j1
      repeat' first
      | (with_reducible exact ih0 _ _ _ _ _ _ _ _)
      | (with_reducible exact ih1 _ _ _ _ _ _ _ _ _)
      | (with_reducible exact LeO.refl _)
      | (with_reducible exact LeO.none _)
      | (with_reducible refine LeO.ite ?_ ?_)
      | (with_reducible refine LeO.bind ?_ (fun _ => ?_))
      | exact ih0 _ _ _ _ _ _ _ _
      | exact ih1 _ _ _ _ _ _ _ _ _
      | exact LeO.none _
      | refine LeO.ite ?_ ?_
      | refine LeO.bind ?_ (fun _ => ?_)
theorem block_Fit.mono : ∀ a0 a1 a2 a3 a4 a5 a6 k, LeO (block_Fit.f k a0 a1 a2 a3 a4 a5 a6) (block_Fit.f (k + 1) a0 a1 a2 a3 a4 a5 a6) := by
  intro a0 a1 a2 a3 a4 a5 a6 k
  obtain ⟨ih0, ih1⟩ := block_Fit.mono_l k
  unfold block_Fit.f
  repeat' first
      | (with_reducible exact ih0 _ _ _ _ _ _ _ _)
      | (with_reducible exact ih1 _ _ _ _ _ _ _ _ _)
      | (with_reducible exact LeO.refl _)
      | (with_reducible exact LeO.none _)
      | (with_reducible refine LeO.ite ?_ ?_)
      | (with_reducible refine LeO.bind ?_ (fun _ => ?_))
      | exact ih0 _ _ _ _ _ _ _ _
      | exact ih1 _ _ _ _ _ _ _ _ _
      | exact LeO.none _
      | refine LeO.ite ?_ ?_
      | refine LeO.bind ?_ (fun _ => ?_)
set_option maxHeartbeats 8000000 in
set_option maxRecDepth 100000 in
theorem block_Fit.calls (k : Nat) (a0_0 : Int) (a0_1 : Int) (a1_0 : Int) (a1_1 : Int) (a1_2 : Int) (A1_3 : Option Addr) (c1_3 : Nat) (l1_3 : List Int) (A1_4 : Option Addr) (c1_4 : Nat) (l1_4 : List Int) (r1 : Int) (r2 : Int) (w : World) (hr1_3 : Kd.C (Kd.int .u8) w A1_3 l1_3.length l1_3) (hc1_3 : l1_3.length ≤ c1_3) (hr1_4 : Kd.C (Kd.int .u8) w A1_4 l1_4.length l1_4) (hc1_4 : l1_4.length ≤ c1_4) (h : block_Fit.f k a0_0 a0_1 a1_0 a1_1 a1_2 l1_3 l1_4 = some (r1, r2)) :
    Calls Try.prog 9 #[.agg #[.int .i64 a0_0, .int .i64 a0_1], .agg #[.int .u8 a1_0, .int .i64 a1_1, .int .i64 a1_2, .slice A1_3 l1_3.length c1_3, .slice A1_4 l1_4.length c1_4]] w fun e w' => e = .returned (.tuple #[.int .u8 r1, .int .i64 r2]) ∧ Below w.heap.size w w' := by
  have hu23 := Try.underlying23
  have hu27 := Try.underlying27
  have HR1_3 := Aside0.mk hr1_3
  have HC1_3 := Aside0.mk hc1_3
  clear hr1_3 hc1_3
  have HR1_4 := Aside0.mk hr1_4
  have HC1_4 := Aside0.mk hc1_4
  clear hr1_4 hc1_4
  have HB := Aside0.mk (Below.refl w.heap.size w)
  have H : ((block_Shape.f a0_0 a0_1).bind fun t108 => (if t108 = 0 then ((block_Form.f a1_0 a1_1 a1_2 l1_3 l1_4).bind fun t109 => (if t109 = 0 then (if a1_0 = 4 then (some (1, 0)) else (if a1_0 = 5 then (block_Fit.j0 k 1 a0_0 a0_1 a1_0 a1_1 a1_2 l1_3 l1_4) else (block_Fit.j0 k a1_2 a0_0 a0_1 a1_0 a1_1 a1_2 l1_3 l1_4))) else (some (0, t109)))) else (some (0, t108)))) = some (r1, r2) := h
  clear h
  replace H := Option.bind_eq_some_iff.mp H
  obtain ⟨t108, A30, H⟩ := H
  replace H : (if t108 = 0 then ((block_Form.f a1_0 a1_1 a1_2 l1_3 l1_4).bind fun t109 => (if t109 = 0 then (if a1_0 = 4 then (some (1, 0)) else (if a1_0 = 5 then (block_Fit.j0 k 1 a0_0 a0_1 a1_0 a1_1 a1_2 l1_3 l1_4) else (block_Fit.j0 k a1_2 a0_0 a0_1 a1_0 a1_1 a1_2 l1_3 l1_4))) else (some (0, t109)))) else (some (0, t108))) = some (r1, r2) := H
  have A3 := Aside0.mk A30
  clear A30
  by_cases c4 : t108 = 0
  · rw [if_pos c4] at H
    have c4b0 : (t108 == 0) = true := beq_iff_eq.mpr c4
    have c4b1 : (t108 != 0) = false := bne_eq_false_iff_eq.mpr c4
    clear c4
    replace H := Option.bind_eq_some_iff.mp H
    obtain ⟨t109, A50, H⟩ := H
    replace H : (if t109 = 0 then (if a1_0 = 4 then (some (1, 0)) else (if a1_0 = 5 then (block_Fit.j0 k 1 a0_0 a0_1 a1_0 a1_1 a1_2 l1_3 l1_4) else (block_Fit.j0 k a1_2 a0_0 a0_1 a1_0 a1_1 a1_2 l1_3 l1_4))) else (some (0, t109))) = some (r1, r2) := H
    have A5 := Aside0.mk A50
    clear A50
    by_cases c6 : t109 = 0
    · rw [if_pos c6] at H
      have c6b0 : (t109 == 0) = true := beq_iff_eq.mpr c6
      have c6b1 : (t109 != 0) = false := bne_eq_false_iff_eq.mpr c6
      clear c6
      have HC7 := Aside0.mk H
      clear H
      go_enter Try.func9, Try.ntmps9
      go_upto_block 0 with (first | ((with_reducible refine gate_dst (N := 2) rfl ?_); (try (refine gate_guard (by rfl) ?_; dsimp only)); refine box_event ?hg (N := 2) ?hd (cs := #[.int .i64 a0_0, .int .i64 a0_1]) (t := 23) ?hr ?_; (case hd => rfl); (case hg => rfl); (case hr => first | (go_simp; done) | (go_simp; rfl)); intro gb106 hg w8 hbox hb; have BK106 := Aside0.mk (hbox); have GW106 := Aside0.mk ((by rw [hg]; exact (below_size (upB0 HB.out)) : w.heap.size ≤ gb106)); have GE106 := Aside0.mk ((by rw [hg]; exact (below_size (upB0 HB.out)) : w.heap.size ≤ gb106)); replace HB := Aside0.mk (below_step (upB0 HB.out) hb); clear hb hbox hg) | ((with_reducible refine gate_dst (N := 3) rfl ?_); (try (refine gate_guard (by rfl) ?_; dsimp only)); refine box_event ?hg (N := 3) ?hd (cs := #[.int .u8 a1_0, .int .i64 a1_1, .int .i64 a1_2, .slice A1_3 l1_3.length c1_3, .slice A1_4 l1_4.length c1_4]) (t := 27) ?hr ?_; (case hd => rfl); (case hg => rfl); (case hr => first | (go_simp; done) | (go_simp; rfl)); intro gb107 hg w9 hbox hb; have BK107 := Aside0.mk (hbox); have GW107 := Aside0.mk ((by rw [hg]; exact (below_size (upB1 HB.out GE106.out)) : w.heap.size ≤ gb107)); have GE107 := Aside0.mk ((by rw [hg]; exact (below_size (upB1 HB.out GE106.out)) : w.heap.size ≤ gb107)); replace HB := Aside0.mk (below_step (upB1 HB.out GE106.out) hb); have NB106_107 := Aside0.mk ((by rw [hg]; exact Nat.ne_of_lt (blk_lt (upK BK106.out)) : gb106 ≠ gb107)); have NB107_106 := Aside0.mk ((by rw [hg]; exact Nat.ne_of_gt (blk_lt (upK BK106.out)) : gb107 ≠ gb106)); replace BK106 := Aside0.mk (blk_below (upK BK106.out) hb); clear hb hbox hg; have hnb10 := NB106_107.out; have hnc10 := NB107_106.out; obtain ⟨hcz11_0, hcz11_1, hfz11_0, hfz11_1⟩ := cells2 BK106.out) | ((with_reducible refine gate_callee (f := 17) rfl ?_); refine goesL_ (some 10) rfl rfl Try.func17 (by kernel_rfl) rfl #[.agg #[.int .i64 a0_0, .int .i64 a0_1]] rfl argA ?_; (with_reducible refine (block_Shape.calls a0_0 a0_1 t108 _ A3.out).mono ?_); rintro e w12 ⟨rfl, hb⟩; refine ⟨_, rfl, ?_⟩; replace BK106 := Aside0.mk (blk_below (upK BK106.out) hb); replace BK107 := Aside0.mk (blk_below (upK BK107.out) hb); replace HB := Aside0.mk (below_step (upB2 HB.out GE106.out GE107.out) hb); (try clear hb); (try clear hb2); (try clear hk); (try clear hi); obtain ⟨hcz13_0, hcz13_1, hcz13_2, hcz13_3, hcz13_4, hfz13_0, hfz13_1, hfz13_2, hfz13_3, hfz13_4⟩ := cells5 BK107.out) | ((with_reducible refine gate_callee (f := 19) rfl ?_); refine goesL_ (some 15) rfl rfl Try.func19 (by kernel_rfl) rfl #[.agg #[.int .u8 a1_0, .int .i64 a1_1, .int .i64 a1_2, .slice A1_3 l1_3.length c1_3, .slice A1_4 l1_4.length c1_4]] rfl argA ?_; (with_reducible refine (block_Form.calls a1_0 a1_1 a1_2 _ _ l1_3 _ _ l1_4 t109 _ ?side1 ?side2 ?side3 ?side4 A5.out).mono ?_); (case side1 => exact upC ((Kd.C_below HR1_3.out HB.out))); (case side2 => exact HC1_3.out); (case side3 => exact upC ((Kd.C_below HR1_4.out HB.out))); (case side4 => exact HC1_4.out); rintro e w14 ⟨rfl, hb⟩; refine ⟨_, rfl, ?_⟩; replace BK106 := Aside0.mk (blk_below (upK BK106.out) hb); replace BK107 := Aside0.mk (blk_below (upK BK107.out) hb); replace HB := Aside0.mk (below_step (upB2 HB.out GE106.out GE107.out) hb); (try clear hb); (try clear hb2); (try clear hk); (try clear hi); obtain ⟨hcz15_0, hcz15_1, hcz15_2, hcz15_3, hcz15_4, hfz15_0, hfz15_1, hfz15_2, hfz15_3, hfz15_4⟩ := cells5 BK107.out))
      (try simp only [Act.put, List.setIfInBounds_toArray, List.set_cons_zero, List.set_cons_succ])
      go_cut [8] (fun v8 wc => ∃ (kq : Nat) (x8_6 : Int), v8 = .int .i64 x8_6 ∧ Aside0 (block_Fit.j0 kq x8_6 a0_0 a0_1 a1_0 a1_1 a1_2 l1_3 l1_4 = some (r1, r2)) ∧ Aside0 (kq ≤ k) ∧ Aside0 (wc.heap[gb106]? = some (.cells #[.int .i64 a0_0, .int .i64 a0_1] 23 (0, 0))) ∧ Aside0 (wc.heap[gb107]? = some (.cells #[.int .u8 a1_0, .int .i64 a1_1, .int .i64 a1_2, (.slice A1_3 l1_3.length c1_3), (.slice A1_4 l1_4.length c1_4)] 27 (0, 0))) ∧ Aside0 (Below w.heap.size w wc))
      case first =>
        have H := HC7.out
        clear HC7
        by_cases c16 : a1_0 = 4
        · rw [if_pos c16] at H
          have c16b0 : (a1_0 == 4) = true := beq_iff_eq.mpr c16
          have c16b1 : (a1_0 != 4) = false := bne_eq_false_iff_eq.mpr c16
          clear c16
          (first | rw [c16b0] | (simp only [i64_w, i32_w]; rw [c16b0]) | skip)
          simp only [Option.some.injEq, Prod.mk.injEq] at H
          obtain ⟨rfl, rfl⟩ := H
          go_wp2
          go_ret2
          exact ⟨by first | rfl | (simp [errW_none, errW_some] <;> rfl) | (simp [*, errW_none, errW_some] <;> rfl), upB2 HB.out GE106.out GE107.out⟩
        · rw [if_neg c16] at H
          have c16b0 : (a1_0 == 4) = false := beq_eq_false_iff_ne.mpr c16
          have c16b1 : (a1_0 != 4) = true := bne_iff_ne.mpr c16
          (first | rw [c16b0] | (simp only [i64_w, i32_w]; rw [c16b0]) | skip)
          by_cases c17 : a1_0 = 5
          · rw [if_pos c17] at H
            have c17b0 : (a1_0 == 5) = true := beq_iff_eq.mpr c17
            have c17b1 : (a1_0 != 5) = false := bne_eq_false_iff_eq.mpr c17
            clear c17
            have H' := Aside0.mk H
            clear H
            go_wp2
            go_meet
            case rel => exact ⟨_, (1), (by first | rfl | (simp; done) | (simp [*]; done)), H', ⟨by first | omega | exact Nat.le_refl _⟩, ⟨by refine upK ?_; exact BK106.out⟩, ⟨by refine upK ?_; exact BK107.out⟩, ⟨upB2 HB.out GE106.out GE107.out⟩⟩
          · rw [if_neg c17] at H
            have c17b0 : (a1_0 == 5) = false := beq_eq_false_iff_ne.mpr c17
            have c17b1 : (a1_0 != 5) = true := bne_iff_ne.mpr c17
            have H' := Aside0.mk H
            clear H
            go_wp2
            go_meet
            case rel => exact ⟨_, (a1_2), (by first | rfl | (simp; done) | (simp [*]; done)), H', ⟨by first | omega | exact Nat.le_refl _⟩, ⟨by refine upK ?_; exact BK106.out⟩, ⟨by refine upK ?_; exact BK107.out⟩, ⟨upB2 HB.out GE106.out GE107.out⟩⟩
      case rest =>
        clear HC7
        try clear c1
        try clear p2
        try clear c4
        try clear c4b0
        try clear c4b1
        try clear c6
        try clear c6b0
        try clear c6b1
        try clear c9
        try clear c10
        try clear c16
        try clear c16b0
        try clear c16b1
        try clear c17
        try clear c17b0
        try clear c17b1
        try clear hcz11_0
        try clear hcz11_1
        try clear hcz13_0
        try clear hcz13_1
        try clear hcz13_2
        try clear hcz13_3
        try clear hcz13_4
        try clear hcz15_0
        try clear hcz15_1
        try clear hcz15_2
        try clear hcz15_3
        try clear hcz15_4
        try clear hfz11_0
        try clear hfz11_1
        try clear hfz13_0
        try clear hfz13_1
        try clear hfz13_2
        try clear hfz13_3
        try clear hfz13_4
        try clear hfz15_0
        try clear hfz15_1
        try clear hfz15_2
        try clear hfz15_3
        try clear hfz15_4
        obtain ⟨kq, x8_6, rfl, HA, HJ6, BK106, BK107, HB⟩ := hcut
        cases kq with
        | zero => exact absurd HA.out (by simp [block_Fit.j0])
        | succ kj6 =>
          have H := HA.out
          clear HA
          simp only [block_Fit.j0] at H
          have HC18 := Aside0.mk H
          clear H
          go_upto_region 13 with (fail)
          go_cut [41] (fun v41 wc => ∃ (kq : Nat) (x41_17 : Bool), v41 = .bool x41_17 ∧ Aside0 (block_Fit.j1 kq x8_6 x41_17 a0_0 a0_1 a1_0 a1_1 a1_2 l1_3 l1_4 = some (r1, r2)) ∧ Aside0 (kq ≤ kj6) ∧ Aside0 (wc.heap[gb106]? = some (.cells #[.int .i64 a0_0, .int .i64 a0_1] 23 (0, 0))) ∧ Aside0 (wc.heap[gb107]? = some (.cells #[.int .u8 a1_0, .int .i64 a1_1, .int .i64 a1_2, (.slice A1_3 l1_3.length c1_3), (.slice A1_4 l1_4.length c1_4)] 27 (0, 0))) ∧ Aside0 (Below w.heap.size w wc))
          case first =>
            have H := HC18.out
            clear HC18
            by_cases c19 : x8_6 < 1
            · rw [if_pos c19] at H
              have c19b0 : decide (x8_6 < 1) = true := decide_eq_true c19
              clear c19
              (first | rw [c19b0] | (simp only [i64_w, i32_w]; rw [c19b0]) | skip)
              have H' := Aside0.mk H
              clear H
              go_wp2
              go_meet
              case rel => exact ⟨_, (true), (by first | rfl | (simp; done) | (simp [*]; done)), H', ⟨by have := HJ6.out; first | omega | exact Nat.le_refl _⟩, ⟨by refine upK ?_; exact BK106.out⟩, ⟨by refine upK ?_; exact BK107.out⟩, ⟨upB2 HB.out GE106.out GE107.out⟩⟩
            · rw [if_neg c19] at H
              have c19b0 : decide (x8_6 < 1) = false := decide_eq_false c19
              clear c19
              (first | rw [c19b0] | (simp only [i64_w, i32_w]; rw [c19b0]) | skip)
              by_cases c20 : x8_6 > 64
              · rw [if_pos c20] at H
                have c20b0 : decide (64 < x8_6) = true := decide_eq_true c20
                clear c20
                have H' := Aside0.mk H
                clear H
                go_wp2
                go_meet
                case rel => exact ⟨_, (true), (by first | rfl | (simp; done) | (simp [*]; done)), H', ⟨by have := HJ6.out; first | omega | exact Nat.le_refl _⟩, ⟨by refine upK ?_; exact BK106.out⟩, ⟨by refine upK ?_; exact BK107.out⟩, ⟨upB2 HB.out GE106.out GE107.out⟩⟩
              · rw [if_neg c20] at H
                have c20b0 : decide (64 < x8_6) = false := decide_eq_false c20
                clear c20
                have H' := Aside0.mk H
                clear H
                have hnb21 := NB107_106.out
                have hnc21 := NB106_107.out
                obtain ⟨hcz22_0, hcz22_1, hcz22_2, hcz22_3, hcz22_4, hfz22_0, hfz22_1, hfz22_2, hfz22_3, hfz22_4⟩ := cells5 BK107.out
                obtain ⟨hcz23_0, hcz23_1, hfz23_0, hfz23_1⟩ := cells2 BK106.out
                go_wp2
                go_meet
                case rel => exact ⟨_, (decide (a1_1 > (wrap64 (a0_0 - x8_6)))), (by first | rfl | (simp; done) | (simp [*]; done)), H', ⟨by have := HJ6.out; first | omega | exact Nat.le_refl _⟩, ⟨by refine upK ?_; exact BK106.out⟩, ⟨by refine upK ?_; exact BK107.out⟩, ⟨upB2 HB.out GE106.out GE107.out⟩⟩
          case rest =>
            clear HC18
            try clear c1
            try clear c2
            try clear p2
            try clear c4
            try clear c4b0
            try clear c4b1
            try clear c6
            try clear c6b0
            try clear c6b1
            try clear p6
            try clear c9
            try clear c10
            try clear c16
            try clear c16b0
            try clear c16b1
            try clear c17
            try clear c17b0
            try clear c17b1
            try clear c19
            try clear c19b0
            try clear c20
            try clear c20b0
            try clear c21
            try clear hcz11_0
            try clear hcz11_1
            try clear hcz13_0
            try clear hcz13_1
            try clear hcz13_2
            try clear hcz13_3
            try clear hcz13_4
            try clear hcz15_0
            try clear hcz15_1
            try clear hcz15_2
            try clear hcz15_3
            try clear hcz15_4
            try clear hcz22_0
            try clear hcz22_1
            try clear hcz22_2
            try clear hcz22_3
            try clear hcz22_4
            try clear hcz23_0
            try clear hcz23_1
            try clear hfz11_0
            try clear hfz11_1
            try clear hfz13_0
            try clear hfz13_1
            try clear hfz13_2
            try clear hfz13_3
            try clear hfz13_4
            try clear hfz15_0
            try clear hfz15_1
            try clear hfz15_2
            try clear hfz15_3
            try clear hfz15_4
            try clear hfz22_0
            try clear hfz22_1
            try clear hfz22_2
            try clear hfz22_3
            try clear hfz22_4
            try clear hfz23_0
            try clear hfz23_1
            try clear p2
            obtain ⟨kq, x41_17, rfl, HA, HJ17, BK106, BK107, HB⟩ := hcut
            cases kq with
            | zero => exact absurd HA.out (by simp [block_Fit.j1])
            | succ kj17 =>
              have H := HA.out
              clear HA
              simp only [block_Fit.j1] at H
              by_cases c24 : x41_17 = true
              · subst c24
                have H1 : (some (2, 0)) = some (r1, r2) := by rw [if_pos rfl] at H; exact H
                clear H
                have H := H1
                clear H1
                simp only [Option.some.injEq, Prod.mk.injEq] at H
                obtain ⟨rfl, rfl⟩ := H
                go_wp2
                go_ret2
                exact ⟨by first | rfl | (simp [errW_none, errW_some] <;> rfl) | (simp [*, errW_none, errW_some] <;> rfl), upB2 HB.out GE106.out GE107.out⟩
              · replace c24 := Bool.eq_false_iff.mpr c24
                subst c24
                have H1 : ((block_Changes.f a1_0 a1_1 a1_2 l1_3 l1_4).bind fun t110 => (if t110 = true then (if a1_0 = 3 then (if a1_0 = 5 then (if (l1_4.length : Int) = a0_1 then (some (1, 0)) else (some (3, 0))) else (some (1, 0))) else (if (l1_3.length : Int) = (wrap64 (x8_6 * a0_1)) then (if a1_0 = 5 then (if (l1_4.length : Int) = a0_1 then (some (1, 0)) else (some (3, 0))) else (some (1, 0))) else (some (3, 0)))) else (if a1_0 = 5 then (if (l1_4.length : Int) = a0_1 then (some (1, 0)) else (some (3, 0))) else (some (1, 0))))) = some (r1, r2) := by rw [if_neg (show ¬ (false = true) by decide)] at H; exact H
                clear H
                have H := H1
                clear H1
                replace H := Option.bind_eq_some_iff.mp H
                obtain ⟨t110, A250, H⟩ := H
                replace H : (if t110 = true then (if a1_0 = 3 then (if a1_0 = 5 then (if (l1_4.length : Int) = a0_1 then (some (1, 0)) else (some (3, 0))) else (some (1, 0))) else (if (l1_3.length : Int) = (wrap64 (x8_6 * a0_1)) then (if a1_0 = 5 then (if (l1_4.length : Int) = a0_1 then (some (1, 0)) else (some (3, 0))) else (some (1, 0))) else (some (3, 0)))) else (if a1_0 = 5 then (if (l1_4.length : Int) = a0_1 then (some (1, 0)) else (some (3, 0))) else (some (1, 0)))) = some (r1, r2) := H
                have A25 := Aside0.mk A250
                clear A250
                by_cases c26 : t110 = true
                · subst c26
                  have H1 : (if a1_0 = 3 then (if a1_0 = 5 then (if (l1_4.length : Int) = a0_1 then (some (1, 0)) else (some (3, 0))) else (some (1, 0))) else (if (l1_3.length : Int) = (wrap64 (x8_6 * a0_1)) then (if a1_0 = 5 then (if (l1_4.length : Int) = a0_1 then (some (1, 0)) else (some (3, 0))) else (some (1, 0))) else (some (3, 0)))) = some (r1, r2) := by rw [if_pos rfl] at H; exact H
                  clear H
                  have H := H1
                  clear H1
                  by_cases c27 : a1_0 = 3
                  · rw [if_pos c27] at H
                    have c27b0 : (a1_0 == 3) = true := beq_iff_eq.mpr c27
                    have c27b1 : (a1_0 != 3) = false := bne_eq_false_iff_eq.mpr c27
                    clear c27
                    by_cases c28 : a1_0 = 5
                    · rw [if_pos c28] at H
                      have c28b0 : (a1_0 == 5) = true := beq_iff_eq.mpr c28
                      have c28b1 : (a1_0 != 5) = false := bne_eq_false_iff_eq.mpr c28
                      clear c28
                      by_cases c29 : (l1_4.length : Int) = a0_1
                      · rw [if_pos c29] at H
                        have c29b0 : ((l1_4.length : Int) == a0_1) = true := beq_iff_eq.mpr c29
                        have c29b1 : ((l1_4.length : Int) != a0_1) = false := bne_eq_false_iff_eq.mpr c29
                        clear c29
                        simp only [Option.some.injEq, Prod.mk.injEq] at H
                        obtain ⟨rfl, rfl⟩ := H
                        have hnb30 := NB107_106.out
                        have hnc30 := NB106_107.out
                        obtain ⟨hcz31_0, hcz31_1, hcz31_2, hcz31_3, hcz31_4, hfz31_0, hfz31_1, hfz31_2, hfz31_3, hfz31_4⟩ := cells5 BK107.out
                        go_wp2_with (first | ((with_reducible refine gate_callee (f := 24) rfl ?_); refine goesL_ (some 43) rfl rfl Try.func24 (by kernel_rfl) rfl #[.agg #[.int .u8 a1_0, .int .i64 a1_1, .int .i64 a1_2, .slice A1_3 l1_3.length c1_3, .slice A1_4 l1_4.length c1_4]] rfl argA ?_; (with_reducible refine (block_Changes.calls a1_0 a1_1 a1_2 _ _ l1_3 _ _ l1_4 true _ ?side1 ?side2 ?side3 ?side4 A25.out).mono ?_); (case side1 => exact upC ((Kd.C_below HR1_3.out HB.out))); (case side2 => exact HC1_3.out); (case side3 => exact upC ((Kd.C_below HR1_4.out HB.out))); (case side4 => exact HC1_4.out); rintro e w32 ⟨rfl, hb⟩; refine ⟨_, rfl, ?_⟩; replace BK106 := Aside0.mk (blk_below (upK BK106.out) hb); replace BK107 := Aside0.mk (blk_below (upK BK107.out) hb); replace HB := Aside0.mk (below_step (upB2 HB.out GE106.out GE107.out) hb); (try clear hb); (try clear hb2); (try clear hk); (try clear hi); obtain ⟨hcz33_0, hcz33_1, hcz33_2, hcz33_3, hcz33_4, hfz33_0, hfz33_1, hfz33_2, hfz33_3, hfz33_4⟩ := cells5 BK107.out; obtain ⟨hcz34_0, hcz34_1, hfz34_0, hfz34_1⟩ := cells2 BK106.out))
                        go_ret2
                        exact ⟨by first | rfl | (simp [errW_none, errW_some] <;> rfl) | (simp [*, errW_none, errW_some] <;> rfl), upB2 HB.out GE106.out GE107.out⟩
                      · rw [if_neg c29] at H
                        have c29b0 : ((l1_4.length : Int) == a0_1) = false := beq_eq_false_iff_ne.mpr c29
                        have c29b1 : ((l1_4.length : Int) != a0_1) = true := bne_iff_ne.mpr c29
                        simp only [Option.some.injEq, Prod.mk.injEq] at H
                        obtain ⟨rfl, rfl⟩ := H
                        have hnb35 := NB107_106.out
                        have hnc35 := NB106_107.out
                        obtain ⟨hcz36_0, hcz36_1, hcz36_2, hcz36_3, hcz36_4, hfz36_0, hfz36_1, hfz36_2, hfz36_3, hfz36_4⟩ := cells5 BK107.out
                        go_wp2_with (first | ((with_reducible refine gate_callee (f := 24) rfl ?_); refine goesL_ (some 43) rfl rfl Try.func24 (by kernel_rfl) rfl #[.agg #[.int .u8 a1_0, .int .i64 a1_1, .int .i64 a1_2, .slice A1_3 l1_3.length c1_3, .slice A1_4 l1_4.length c1_4]] rfl argA ?_; (with_reducible refine (block_Changes.calls a1_0 a1_1 a1_2 _ _ l1_3 _ _ l1_4 true _ ?side1 ?side2 ?side3 ?side4 A25.out).mono ?_); (case side1 => exact upC ((Kd.C_below HR1_3.out HB.out))); (case side2 => exact HC1_3.out); (case side3 => exact upC ((Kd.C_below HR1_4.out HB.out))); (case side4 => exact HC1_4.out); rintro e w37 ⟨rfl, hb⟩; refine ⟨_, rfl, ?_⟩; replace BK106 := Aside0.mk (blk_below (upK BK106.out) hb); replace BK107 := Aside0.mk (blk_below (upK BK107.out) hb); replace HB := Aside0.mk (below_step (upB2 HB.out GE106.out GE107.out) hb); (try clear hb); (try clear hb2); (try clear hk); (try clear hi); obtain ⟨hcz38_0, hcz38_1, hcz38_2, hcz38_3, hcz38_4, hfz38_0, hfz38_1, hfz38_2, hfz38_3, hfz38_4⟩ := cells5 BK107.out; obtain ⟨hcz39_0, hcz39_1, hfz39_0, hfz39_1⟩ := cells2 BK106.out))
                        go_ret2
                        exact ⟨by first | rfl | (simp [errW_none, errW_some] <;> rfl) | (simp [*, errW_none, errW_some] <;> rfl), upB2 HB.out GE106.out GE107.out⟩
                    · rw [if_neg c28] at H
                      have c28b0 : (a1_0 == 5) = false := beq_eq_false_iff_ne.mpr c28
                      have c28b1 : (a1_0 != 5) = true := bne_iff_ne.mpr c28
                      simp only [Option.some.injEq, Prod.mk.injEq] at H
                      obtain ⟨rfl, rfl⟩ := H
                      have hnb40 := NB107_106.out
                      have hnc40 := NB106_107.out
                      obtain ⟨hcz41_0, hcz41_1, hcz41_2, hcz41_3, hcz41_4, hfz41_0, hfz41_1, hfz41_2, hfz41_3, hfz41_4⟩ := cells5 BK107.out
                      go_wp2_with (first | ((with_reducible refine gate_callee (f := 24) rfl ?_); refine goesL_ (some 43) rfl rfl Try.func24 (by kernel_rfl) rfl #[.agg #[.int .u8 a1_0, .int .i64 a1_1, .int .i64 a1_2, .slice A1_3 l1_3.length c1_3, .slice A1_4 l1_4.length c1_4]] rfl argA ?_; (with_reducible refine (block_Changes.calls a1_0 a1_1 a1_2 _ _ l1_3 _ _ l1_4 true _ ?side1 ?side2 ?side3 ?side4 A25.out).mono ?_); (case side1 => exact upC ((Kd.C_below HR1_3.out HB.out))); (case side2 => exact HC1_3.out); (case side3 => exact upC ((Kd.C_below HR1_4.out HB.out))); (case side4 => exact HC1_4.out); rintro e w42 ⟨rfl, hb⟩; refine ⟨_, rfl, ?_⟩; replace BK106 := Aside0.mk (blk_below (upK BK106.out) hb); replace BK107 := Aside0.mk (blk_below (upK BK107.out) hb); replace HB := Aside0.mk (below_step (upB2 HB.out GE106.out GE107.out) hb); (try clear hb); (try clear hb2); (try clear hk); (try clear hi); obtain ⟨hcz43_0, hcz43_1, hcz43_2, hcz43_3, hcz43_4, hfz43_0, hfz43_1, hfz43_2, hfz43_3, hfz43_4⟩ := cells5 BK107.out))
                      go_ret2
                      exact ⟨by first | rfl | (simp [errW_none, errW_some] <;> rfl) | (simp [*, errW_none, errW_some] <;> rfl), upB2 HB.out GE106.out GE107.out⟩
                  · rw [if_neg c27] at H
                    have c27b0 : (a1_0 == 3) = false := beq_eq_false_iff_ne.mpr c27
                    have c27b1 : (a1_0 != 3) = true := bne_iff_ne.mpr c27
                    by_cases c44 : (l1_3.length : Int) = (wrap64 (x8_6 * a0_1))
                    · rw [if_pos c44] at H
                      have c44b0 : ((l1_3.length : Int) == (wrap64 (x8_6 * a0_1))) = true := beq_iff_eq.mpr c44
                      have c44b1 : ((l1_3.length : Int) != (wrap64 (x8_6 * a0_1))) = false := bne_eq_false_iff_eq.mpr c44
                      clear c44
                      by_cases c45 : a1_0 = 5
                      · rw [if_pos c45] at H
                        have c45b0 : (a1_0 == 5) = true := beq_iff_eq.mpr c45
                        have c45b1 : (a1_0 != 5) = false := bne_eq_false_iff_eq.mpr c45
                        clear c45
                        by_cases c46 : (l1_4.length : Int) = a0_1
                        · rw [if_pos c46] at H
                          have c46b0 : ((l1_4.length : Int) == a0_1) = true := beq_iff_eq.mpr c46
                          have c46b1 : ((l1_4.length : Int) != a0_1) = false := bne_eq_false_iff_eq.mpr c46
                          clear c46
                          simp only [Option.some.injEq, Prod.mk.injEq] at H
                          obtain ⟨rfl, rfl⟩ := H
                          have hnb47 := NB107_106.out
                          have hnc47 := NB106_107.out
                          obtain ⟨hcz48_0, hcz48_1, hcz48_2, hcz48_3, hcz48_4, hfz48_0, hfz48_1, hfz48_2, hfz48_3, hfz48_4⟩ := cells5 BK107.out
                          go_wp2_with (first | ((with_reducible refine gate_callee (f := 24) rfl ?_); refine goesL_ (some 43) rfl rfl Try.func24 (by kernel_rfl) rfl #[.agg #[.int .u8 a1_0, .int .i64 a1_1, .int .i64 a1_2, .slice A1_3 l1_3.length c1_3, .slice A1_4 l1_4.length c1_4]] rfl argA ?_; (with_reducible refine (block_Changes.calls a1_0 a1_1 a1_2 _ _ l1_3 _ _ l1_4 true _ ?side1 ?side2 ?side3 ?side4 A25.out).mono ?_); (case side1 => exact upC ((Kd.C_below HR1_3.out HB.out))); (case side2 => exact HC1_3.out); (case side3 => exact upC ((Kd.C_below HR1_4.out HB.out))); (case side4 => exact HC1_4.out); rintro e w49 ⟨rfl, hb⟩; refine ⟨_, rfl, ?_⟩; replace BK106 := Aside0.mk (blk_below (upK BK106.out) hb); replace BK107 := Aside0.mk (blk_below (upK BK107.out) hb); replace HB := Aside0.mk (below_step (upB2 HB.out GE106.out GE107.out) hb); (try clear hb); (try clear hb2); (try clear hk); (try clear hi); obtain ⟨hcz50_0, hcz50_1, hcz50_2, hcz50_3, hcz50_4, hfz50_0, hfz50_1, hfz50_2, hfz50_3, hfz50_4⟩ := cells5 BK107.out; obtain ⟨hcz51_0, hcz51_1, hfz51_0, hfz51_1⟩ := cells2 BK106.out))
                          go_ret2
                          exact ⟨by first | rfl | (simp [errW_none, errW_some] <;> rfl) | (simp [*, errW_none, errW_some] <;> rfl), upB2 HB.out GE106.out GE107.out⟩
                        · rw [if_neg c46] at H
                          have c46b0 : ((l1_4.length : Int) == a0_1) = false := beq_eq_false_iff_ne.mpr c46
                          have c46b1 : ((l1_4.length : Int) != a0_1) = true := bne_iff_ne.mpr c46
                          simp only [Option.some.injEq, Prod.mk.injEq] at H
                          obtain ⟨rfl, rfl⟩ := H
                          have hnb52 := NB107_106.out
                          have hnc52 := NB106_107.out
                          obtain ⟨hcz53_0, hcz53_1, hcz53_2, hcz53_3, hcz53_4, hfz53_0, hfz53_1, hfz53_2, hfz53_3, hfz53_4⟩ := cells5 BK107.out
                          go_wp2_with (first | ((with_reducible refine gate_callee (f := 24) rfl ?_); refine goesL_ (some 43) rfl rfl Try.func24 (by kernel_rfl) rfl #[.agg #[.int .u8 a1_0, .int .i64 a1_1, .int .i64 a1_2, .slice A1_3 l1_3.length c1_3, .slice A1_4 l1_4.length c1_4]] rfl argA ?_; (with_reducible refine (block_Changes.calls a1_0 a1_1 a1_2 _ _ l1_3 _ _ l1_4 true _ ?side1 ?side2 ?side3 ?side4 A25.out).mono ?_); (case side1 => exact upC ((Kd.C_below HR1_3.out HB.out))); (case side2 => exact HC1_3.out); (case side3 => exact upC ((Kd.C_below HR1_4.out HB.out))); (case side4 => exact HC1_4.out); rintro e w54 ⟨rfl, hb⟩; refine ⟨_, rfl, ?_⟩; replace BK106 := Aside0.mk (blk_below (upK BK106.out) hb); replace BK107 := Aside0.mk (blk_below (upK BK107.out) hb); replace HB := Aside0.mk (below_step (upB2 HB.out GE106.out GE107.out) hb); (try clear hb); (try clear hb2); (try clear hk); (try clear hi); obtain ⟨hcz55_0, hcz55_1, hcz55_2, hcz55_3, hcz55_4, hfz55_0, hfz55_1, hfz55_2, hfz55_3, hfz55_4⟩ := cells5 BK107.out; obtain ⟨hcz56_0, hcz56_1, hfz56_0, hfz56_1⟩ := cells2 BK106.out))
                          go_ret2
                          exact ⟨by first | rfl | (simp [errW_none, errW_some] <;> rfl) | (simp [*, errW_none, errW_some] <;> rfl), upB2 HB.out GE106.out GE107.out⟩
                      · rw [if_neg c45] at H
                        have c45b0 : (a1_0 == 5) = false := beq_eq_false_iff_ne.mpr c45
                        have c45b1 : (a1_0 != 5) = true := bne_iff_ne.mpr c45
                        simp only [Option.some.injEq, Prod.mk.injEq] at H
                        obtain ⟨rfl, rfl⟩ := H
                        have hnb57 := NB107_106.out
                        have hnc57 := NB106_107.out
                        obtain ⟨hcz58_0, hcz58_1, hcz58_2, hcz58_3, hcz58_4, hfz58_0, hfz58_1, hfz58_2, hfz58_3, hfz58_4⟩ := cells5 BK107.out
                        go_wp2_with (first | ((with_reducible refine gate_callee (f := 24) rfl ?_); refine goesL_ (some 43) rfl rfl Try.func24 (by kernel_rfl) rfl #[.agg #[.int .u8 a1_0, .int .i64 a1_1, .int .i64 a1_2, .slice A1_3 l1_3.length c1_3, .slice A1_4 l1_4.length c1_4]] rfl argA ?_; (with_reducible refine (block_Changes.calls a1_0 a1_1 a1_2 _ _ l1_3 _ _ l1_4 true _ ?side1 ?side2 ?side3 ?side4 A25.out).mono ?_); (case side1 => exact upC ((Kd.C_below HR1_3.out HB.out))); (case side2 => exact HC1_3.out); (case side3 => exact upC ((Kd.C_below HR1_4.out HB.out))); (case side4 => exact HC1_4.out); rintro e w59 ⟨rfl, hb⟩; refine ⟨_, rfl, ?_⟩; replace BK106 := Aside0.mk (blk_below (upK BK106.out) hb); replace BK107 := Aside0.mk (blk_below (upK BK107.out) hb); replace HB := Aside0.mk (below_step (upB2 HB.out GE106.out GE107.out) hb); (try clear hb); (try clear hb2); (try clear hk); (try clear hi); obtain ⟨hcz60_0, hcz60_1, hcz60_2, hcz60_3, hcz60_4, hfz60_0, hfz60_1, hfz60_2, hfz60_3, hfz60_4⟩ := cells5 BK107.out; obtain ⟨hcz61_0, hcz61_1, hfz61_0, hfz61_1⟩ := cells2 BK106.out))
                        go_ret2
                        exact ⟨by first | rfl | (simp [errW_none, errW_some] <;> rfl) | (simp [*, errW_none, errW_some] <;> rfl), upB2 HB.out GE106.out GE107.out⟩
                    · rw [if_neg c44] at H
                      have c44b0 : ((l1_3.length : Int) == (wrap64 (x8_6 * a0_1))) = false := beq_eq_false_iff_ne.mpr c44
                      have c44b1 : ((l1_3.length : Int) != (wrap64 (x8_6 * a0_1))) = true := bne_iff_ne.mpr c44
                      simp only [Option.some.injEq, Prod.mk.injEq] at H
                      obtain ⟨rfl, rfl⟩ := H
                      have hnb62 := NB107_106.out
                      have hnc62 := NB106_107.out
                      obtain ⟨hcz63_0, hcz63_1, hcz63_2, hcz63_3, hcz63_4, hfz63_0, hfz63_1, hfz63_2, hfz63_3, hfz63_4⟩ := cells5 BK107.out
                      go_wp2_with (first | ((with_reducible refine gate_callee (f := 24) rfl ?_); refine goesL_ (some 43) rfl rfl Try.func24 (by kernel_rfl) rfl #[.agg #[.int .u8 a1_0, .int .i64 a1_1, .int .i64 a1_2, .slice A1_3 l1_3.length c1_3, .slice A1_4 l1_4.length c1_4]] rfl argA ?_; (with_reducible refine (block_Changes.calls a1_0 a1_1 a1_2 _ _ l1_3 _ _ l1_4 true _ ?side1 ?side2 ?side3 ?side4 A25.out).mono ?_); (case side1 => exact upC ((Kd.C_below HR1_3.out HB.out))); (case side2 => exact HC1_3.out); (case side3 => exact upC ((Kd.C_below HR1_4.out HB.out))); (case side4 => exact HC1_4.out); rintro e w64 ⟨rfl, hb⟩; refine ⟨_, rfl, ?_⟩; replace BK106 := Aside0.mk (blk_below (upK BK106.out) hb); replace BK107 := Aside0.mk (blk_below (upK BK107.out) hb); replace HB := Aside0.mk (below_step (upB2 HB.out GE106.out GE107.out) hb); (try clear hb); (try clear hb2); (try clear hk); (try clear hi); obtain ⟨hcz65_0, hcz65_1, hcz65_2, hcz65_3, hcz65_4, hfz65_0, hfz65_1, hfz65_2, hfz65_3, hfz65_4⟩ := cells5 BK107.out; obtain ⟨hcz66_0, hcz66_1, hfz66_0, hfz66_1⟩ := cells2 BK106.out))
                      go_ret2
                      exact ⟨by first | rfl | (simp [errW_none, errW_some] <;> rfl) | (simp [*, errW_none, errW_some] <;> rfl), upB2 HB.out GE106.out GE107.out⟩
                · replace c26 := Bool.eq_false_iff.mpr c26
                  subst c26
                  have H1 : (if a1_0 = 5 then (if (l1_4.length : Int) = a0_1 then (some (1, 0)) else (some (3, 0))) else (some (1, 0))) = some (r1, r2) := by rw [if_neg (show ¬ (false = true) by decide)] at H; exact H
                  clear H
                  have H := H1
                  clear H1
                  by_cases c67 : a1_0 = 5
                  · rw [if_pos c67] at H
                    have c67b0 : (a1_0 == 5) = true := beq_iff_eq.mpr c67
                    have c67b1 : (a1_0 != 5) = false := bne_eq_false_iff_eq.mpr c67
                    clear c67
                    by_cases c68 : (l1_4.length : Int) = a0_1
                    · rw [if_pos c68] at H
                      have c68b0 : ((l1_4.length : Int) == a0_1) = true := beq_iff_eq.mpr c68
                      have c68b1 : ((l1_4.length : Int) != a0_1) = false := bne_eq_false_iff_eq.mpr c68
                      clear c68
                      simp only [Option.some.injEq, Prod.mk.injEq] at H
                      obtain ⟨rfl, rfl⟩ := H
                      have hnb69 := NB107_106.out
                      have hnc69 := NB106_107.out
                      obtain ⟨hcz70_0, hcz70_1, hcz70_2, hcz70_3, hcz70_4, hfz70_0, hfz70_1, hfz70_2, hfz70_3, hfz70_4⟩ := cells5 BK107.out
                      go_wp2_with (first | ((with_reducible refine gate_callee (f := 24) rfl ?_); refine goesL_ (some 43) rfl rfl Try.func24 (by kernel_rfl) rfl #[.agg #[.int .u8 a1_0, .int .i64 a1_1, .int .i64 a1_2, .slice A1_3 l1_3.length c1_3, .slice A1_4 l1_4.length c1_4]] rfl argA ?_; (with_reducible refine (block_Changes.calls a1_0 a1_1 a1_2 _ _ l1_3 _ _ l1_4 false _ ?side1 ?side2 ?side3 ?side4 A25.out).mono ?_); (case side1 => exact upC ((Kd.C_below HR1_3.out HB.out))); (case side2 => exact HC1_3.out); (case side3 => exact upC ((Kd.C_below HR1_4.out HB.out))); (case side4 => exact HC1_4.out); rintro e w71 ⟨rfl, hb⟩; refine ⟨_, rfl, ?_⟩; replace BK106 := Aside0.mk (blk_below (upK BK106.out) hb); replace BK107 := Aside0.mk (blk_below (upK BK107.out) hb); replace HB := Aside0.mk (below_step (upB2 HB.out GE106.out GE107.out) hb); (try clear hb); (try clear hb2); (try clear hk); (try clear hi); obtain ⟨hcz72_0, hcz72_1, hcz72_2, hcz72_3, hcz72_4, hfz72_0, hfz72_1, hfz72_2, hfz72_3, hfz72_4⟩ := cells5 BK107.out; obtain ⟨hcz73_0, hcz73_1, hfz73_0, hfz73_1⟩ := cells2 BK106.out))
                      go_ret2
                      exact ⟨by first | rfl | (simp [errW_none, errW_some] <;> rfl) | (simp [*, errW_none, errW_some] <;> rfl), upB2 HB.out GE106.out GE107.out⟩
                    · rw [if_neg c68] at H
                      have c68b0 : ((l1_4.length : Int) == a0_1) = false := beq_eq_false_iff_ne.mpr c68
                      have c68b1 : ((l1_4.length : Int) != a0_1) = true := bne_iff_ne.mpr c68
                      simp only [Option.some.injEq, Prod.mk.injEq] at H
                      obtain ⟨rfl, rfl⟩ := H
                      have hnb74 := NB107_106.out
                      have hnc74 := NB106_107.out
                      obtain ⟨hcz75_0, hcz75_1, hcz75_2, hcz75_3, hcz75_4, hfz75_0, hfz75_1, hfz75_2, hfz75_3, hfz75_4⟩ := cells5 BK107.out
                      go_wp2_with (first | ((with_reducible refine gate_callee (f := 24) rfl ?_); refine goesL_ (some 43) rfl rfl Try.func24 (by kernel_rfl) rfl #[.agg #[.int .u8 a1_0, .int .i64 a1_1, .int .i64 a1_2, .slice A1_3 l1_3.length c1_3, .slice A1_4 l1_4.length c1_4]] rfl argA ?_; (with_reducible refine (block_Changes.calls a1_0 a1_1 a1_2 _ _ l1_3 _ _ l1_4 false _ ?side1 ?side2 ?side3 ?side4 A25.out).mono ?_); (case side1 => exact upC ((Kd.C_below HR1_3.out HB.out))); (case side2 => exact HC1_3.out); (case side3 => exact upC ((Kd.C_below HR1_4.out HB.out))); (case side4 => exact HC1_4.out); rintro e w76 ⟨rfl, hb⟩; refine ⟨_, rfl, ?_⟩; replace BK106 := Aside0.mk (blk_below (upK BK106.out) hb); replace BK107 := Aside0.mk (blk_below (upK BK107.out) hb); replace HB := Aside0.mk (below_step (upB2 HB.out GE106.out GE107.out) hb); (try clear hb); (try clear hb2); (try clear hk); (try clear hi); obtain ⟨hcz77_0, hcz77_1, hcz77_2, hcz77_3, hcz77_4, hfz77_0, hfz77_1, hfz77_2, hfz77_3, hfz77_4⟩ := cells5 BK107.out; obtain ⟨hcz78_0, hcz78_1, hfz78_0, hfz78_1⟩ := cells2 BK106.out))
                      go_ret2
                      exact ⟨by first | rfl | (simp [errW_none, errW_some] <;> rfl) | (simp [*, errW_none, errW_some] <;> rfl), upB2 HB.out GE106.out GE107.out⟩
                  · rw [if_neg c67] at H
                    have c67b0 : (a1_0 == 5) = false := beq_eq_false_iff_ne.mpr c67
                    have c67b1 : (a1_0 != 5) = true := bne_iff_ne.mpr c67
                    simp only [Option.some.injEq, Prod.mk.injEq] at H
                    obtain ⟨rfl, rfl⟩ := H
                    have hnb79 := NB107_106.out
                    have hnc79 := NB106_107.out
                    obtain ⟨hcz80_0, hcz80_1, hcz80_2, hcz80_3, hcz80_4, hfz80_0, hfz80_1, hfz80_2, hfz80_3, hfz80_4⟩ := cells5 BK107.out
                    go_wp2_with (first | ((with_reducible refine gate_callee (f := 24) rfl ?_); refine goesL_ (some 43) rfl rfl Try.func24 (by kernel_rfl) rfl #[.agg #[.int .u8 a1_0, .int .i64 a1_1, .int .i64 a1_2, .slice A1_3 l1_3.length c1_3, .slice A1_4 l1_4.length c1_4]] rfl argA ?_; (with_reducible refine (block_Changes.calls a1_0 a1_1 a1_2 _ _ l1_3 _ _ l1_4 false _ ?side1 ?side2 ?side3 ?side4 A25.out).mono ?_); (case side1 => exact upC ((Kd.C_below HR1_3.out HB.out))); (case side2 => exact HC1_3.out); (case side3 => exact upC ((Kd.C_below HR1_4.out HB.out))); (case side4 => exact HC1_4.out); rintro e w81 ⟨rfl, hb⟩; refine ⟨_, rfl, ?_⟩; replace BK106 := Aside0.mk (blk_below (upK BK106.out) hb); replace BK107 := Aside0.mk (blk_below (upK BK107.out) hb); replace HB := Aside0.mk (below_step (upB2 HB.out GE106.out GE107.out) hb); (try clear hb); (try clear hb2); (try clear hk); (try clear hi); obtain ⟨hcz82_0, hcz82_1, hcz82_2, hcz82_3, hcz82_4, hfz82_0, hfz82_1, hfz82_2, hfz82_3, hfz82_4⟩ := cells5 BK107.out))
                    go_ret2
                    exact ⟨by first | rfl | (simp [errW_none, errW_some] <;> rfl) | (simp [*, errW_none, errW_some] <;> rfl), upB2 HB.out GE106.out GE107.out⟩
    · rw [if_neg c6] at H
      have c6b0 : (t109 == 0) = false := beq_eq_false_iff_ne.mpr c6
      have c6b1 : (t109 != 0) = true := bne_iff_ne.mpr c6
      simp only [Option.some.injEq, Prod.mk.injEq] at H
      obtain ⟨rfl, rfl⟩ := H
      go_enter Try.func9, Try.ntmps9
      go_wp2_with (first | ((with_reducible refine gate_dst (N := 2) rfl ?_); (try (refine gate_guard (by rfl) ?_; dsimp only)); refine box_event ?hg (N := 2) ?hd (cs := #[.int .i64 a0_0, .int .i64 a0_1]) (t := 23) ?hr ?_; (case hd => rfl); (case hg => rfl); (case hr => first | (go_simp; done) | (go_simp; rfl)); intro gb106 hg w83 hbox hb; have BK106 := Aside0.mk (hbox); have GW106 := Aside0.mk ((by rw [hg]; exact (below_size (upB0 HB.out)) : w.heap.size ≤ gb106)); have GE106 := Aside0.mk ((by rw [hg]; exact (below_size (upB0 HB.out)) : w.heap.size ≤ gb106)); replace HB := Aside0.mk (below_step (upB0 HB.out) hb); clear hb hbox hg) | ((with_reducible refine gate_dst (N := 3) rfl ?_); (try (refine gate_guard (by rfl) ?_; dsimp only)); refine box_event ?hg (N := 3) ?hd (cs := #[.int .u8 a1_0, .int .i64 a1_1, .int .i64 a1_2, .slice A1_3 l1_3.length c1_3, .slice A1_4 l1_4.length c1_4]) (t := 27) ?hr ?_; (case hd => rfl); (case hg => rfl); (case hr => first | (go_simp; done) | (go_simp; rfl)); intro gb107 hg w84 hbox hb; have BK107 := Aside0.mk (hbox); have GW107 := Aside0.mk ((by rw [hg]; exact (below_size (upB1 HB.out GE106.out)) : w.heap.size ≤ gb107)); have GE107 := Aside0.mk ((by rw [hg]; exact (below_size (upB1 HB.out GE106.out)) : w.heap.size ≤ gb107)); replace HB := Aside0.mk (below_step (upB1 HB.out GE106.out) hb); have NB106_107 := Aside0.mk ((by rw [hg]; exact Nat.ne_of_lt (blk_lt (upK BK106.out)) : gb106 ≠ gb107)); have NB107_106 := Aside0.mk ((by rw [hg]; exact Nat.ne_of_gt (blk_lt (upK BK106.out)) : gb107 ≠ gb106)); replace BK106 := Aside0.mk (blk_below (upK BK106.out) hb); clear hb hbox hg; have hnb85 := NB106_107.out; have hnc85 := NB107_106.out; obtain ⟨hcz86_0, hcz86_1, hfz86_0, hfz86_1⟩ := cells2 BK106.out) | ((with_reducible refine gate_callee (f := 17) rfl ?_); refine goesL_ (some 10) rfl rfl Try.func17 (by kernel_rfl) rfl #[.agg #[.int .i64 a0_0, .int .i64 a0_1]] rfl argA ?_; (with_reducible refine (block_Shape.calls a0_0 a0_1 t108 _ A3.out).mono ?_); rintro e w87 ⟨rfl, hb⟩; refine ⟨_, rfl, ?_⟩; replace BK106 := Aside0.mk (blk_below (upK BK106.out) hb); replace BK107 := Aside0.mk (blk_below (upK BK107.out) hb); replace HB := Aside0.mk (below_step (upB2 HB.out GE106.out GE107.out) hb); (try clear hb); (try clear hb2); (try clear hk); (try clear hi); obtain ⟨hcz88_0, hcz88_1, hcz88_2, hcz88_3, hcz88_4, hfz88_0, hfz88_1, hfz88_2, hfz88_3, hfz88_4⟩ := cells5 BK107.out) | ((with_reducible refine gate_callee (f := 19) rfl ?_); refine goesL_ (some 15) rfl rfl Try.func19 (by kernel_rfl) rfl #[.agg #[.int .u8 a1_0, .int .i64 a1_1, .int .i64 a1_2, .slice A1_3 l1_3.length c1_3, .slice A1_4 l1_4.length c1_4]] rfl argA ?_; (with_reducible refine (block_Form.calls a1_0 a1_1 a1_2 _ _ l1_3 _ _ l1_4 t109 _ ?side1 ?side2 ?side3 ?side4 A5.out).mono ?_); (case side1 => exact upC ((Kd.C_below HR1_3.out HB.out))); (case side2 => exact HC1_3.out); (case side3 => exact upC ((Kd.C_below HR1_4.out HB.out))); (case side4 => exact HC1_4.out); rintro e w89 ⟨rfl, hb⟩; refine ⟨_, rfl, ?_⟩; replace BK106 := Aside0.mk (blk_below (upK BK106.out) hb); replace BK107 := Aside0.mk (blk_below (upK BK107.out) hb); replace HB := Aside0.mk (below_step (upB2 HB.out GE106.out GE107.out) hb); (try clear hb); (try clear hb2); (try clear hk); (try clear hi)))
      go_ret2
      exact ⟨by first | rfl | (simp [errW_none, errW_some] <;> rfl) | (simp [*, errW_none, errW_some] <;> rfl), upB2 HB.out GE106.out GE107.out⟩
  · rw [if_neg c4] at H
    have c4b0 : (t108 == 0) = false := beq_eq_false_iff_ne.mpr c4
    have c4b1 : (t108 != 0) = true := bne_iff_ne.mpr c4
    simp only [Option.some.injEq, Prod.mk.injEq] at H
    obtain ⟨rfl, rfl⟩ := H
    go_enter Try.func9, Try.ntmps9
    go_wp2_with (first | ((with_reducible refine gate_dst (N := 2) rfl ?_); (try (refine gate_guard (by rfl) ?_; dsimp only)); refine box_event ?hg (N := 2) ?hd (cs := #[.int .i64 a0_0, .int .i64 a0_1]) (t := 23) ?hr ?_; (case hd => rfl); (case hg => rfl); (case hr => first | (go_simp; done) | (go_simp; rfl)); intro gb106 hg w90 hbox hb; have BK106 := Aside0.mk (hbox); have GW106 := Aside0.mk ((by rw [hg]; exact (below_size (upB0 HB.out)) : w.heap.size ≤ gb106)); have GE106 := Aside0.mk ((by rw [hg]; exact (below_size (upB0 HB.out)) : w.heap.size ≤ gb106)); replace HB := Aside0.mk (below_step (upB0 HB.out) hb); clear hb hbox hg) | ((with_reducible refine gate_dst (N := 3) rfl ?_); (try (refine gate_guard (by rfl) ?_; dsimp only)); refine box_event ?hg (N := 3) ?hd (cs := #[.int .u8 a1_0, .int .i64 a1_1, .int .i64 a1_2, .slice A1_3 l1_3.length c1_3, .slice A1_4 l1_4.length c1_4]) (t := 27) ?hr ?_; (case hd => rfl); (case hg => rfl); (case hr => first | (go_simp; done) | (go_simp; rfl)); intro gb107 hg w91 hbox hb; have BK107 := Aside0.mk (hbox); have GW107 := Aside0.mk ((by rw [hg]; exact (below_size (upB1 HB.out GE106.out)) : w.heap.size ≤ gb107)); have GE107 := Aside0.mk ((by rw [hg]; exact (below_size (upB1 HB.out GE106.out)) : w.heap.size ≤ gb107)); replace HB := Aside0.mk (below_step (upB1 HB.out GE106.out) hb); have NB106_107 := Aside0.mk ((by rw [hg]; exact Nat.ne_of_lt (blk_lt (upK BK106.out)) : gb106 ≠ gb107)); have NB107_106 := Aside0.mk ((by rw [hg]; exact Nat.ne_of_gt (blk_lt (upK BK106.out)) : gb107 ≠ gb106)); replace BK106 := Aside0.mk (blk_below (upK BK106.out) hb); clear hb hbox hg; have hnb92 := NB106_107.out; have hnc92 := NB107_106.out; obtain ⟨hcz93_0, hcz93_1, hfz93_0, hfz93_1⟩ := cells2 BK106.out) | ((with_reducible refine gate_callee (f := 17) rfl ?_); refine goesL_ (some 10) rfl rfl Try.func17 (by kernel_rfl) rfl #[.agg #[.int .i64 a0_0, .int .i64 a0_1]] rfl argA ?_; (with_reducible refine (block_Shape.calls a0_0 a0_1 t108 _ A3.out).mono ?_); rintro e w94 ⟨rfl, hb⟩; refine ⟨_, rfl, ?_⟩; replace BK106 := Aside0.mk (blk_below (upK BK106.out) hb); replace BK107 := Aside0.mk (blk_below (upK BK107.out) hb); replace HB := Aside0.mk (below_step (upB2 HB.out GE106.out GE107.out) hb); (try clear hb); (try clear hb2); (try clear hk); (try clear hi)))
    go_ret2
    exact ⟨by first | rfl | (simp [errW_none, errW_some] <;> rfl) | (simp [*, errW_none, errW_some] <;> rfl), upB2 HB.out GE106.out GE107.out⟩

end Go.Proofs.Ytogjpilkgghidaa.F
