-- Written by ext (this session's own program).
-- in short rows (short.py)
import Derived.Test.YtbmmddngadnofaaFx0
import Derived.Test.YtbmmddngadnofaaFx14
namespace Go.Proofs.Ytbmmddngadnofaa.F
open Go.RowKit Go.Proofs.YtbmmddngadnofaaW.PrintWords Go.Proofs.YtbmmddngadnofaaW.PrintLast Go.Proofs.YtbmmddngadnofaaW.PrintMore
attribute [local go_sem] max2_int min2_int max_two min_two max_three min_three max_four min_four   -- for this text's walks alone
set_option linter.unusedVariables false
set_option linter.unusedSimpArgs false

/-! ### plinthref25_Proved: function 18 -/
mutual
def plinthref25_Proved.j0 : Nat → Int → Int → Int → Bool → Int → List (List Int) → Option (Int)
 | 0, _, _, _, _, _, _ => none
 | k + 1, x0, x1, x2, x28, x244000, x244001 => if x28 = true then (some 251) else (plinthref25_Proved.l0 k x0 x1 x2 x244000 0 x244000 x244001)
def plinthref25_Proved.l0 : Nat → Int → Int → Int → Int → Int → Int → List (List Int) → Option (Int)
 | 0, _, _, _, _, _, _, _ => none
 | k + 1, x0, x1, x2, x9, x10, x244000, x244001 => if x1 > 1 then (if x10 ≥ (x244001.length : Int) then (some 251) else (if 0 ≤ x10 then (if x10 < (x244001.length : Int) then (if ((rd_L1 x244001 x10).length : Int) = (mn 4 (wrap64 (x1 - (wrap64 ((wrap64 (Int.tdiv x9 4)) * 4))))) then (if 0 ≤ (wrap64 (x9 - (wrap64 ((wrap64 (Int.tdiv x9 4)) * 4)))) then (if (wrap64 (x9 - (wrap64 ((wrap64 (Int.tdiv x9 4)) * 4)))) < ((rd_L1 x244001 x10).length : Int) then (if (rd (rd_L1 x244001 x10) (wrap64 (x9 - (wrap64 ((wrap64 (Int.tdiv x9 4)) * 4))))) = x2 then ((plinthref25_Row.f k (rd_L1 x244001 x10)).bind fun t248 => (plinthref25_Proved.l0 k x0 (wrap64 (Int.tdiv (wrap64 ((wrap64 (x1 + 4)) - 1)) 4)) t248 (wrap64 (Int.tdiv x9 4)) (wrap64 (x10 + 1)) x244000 x244001)) else (some 251)) else (none)) else (none)) else (some 251)) else (none)) else (none))) else (if x10 = (x244001.length : Int) then (if x2 = x0 then (some 0) else (some 251)) else (some 251))
end
def plinthref25_Proved.f (k : Nat) (a0 : Int) (a1 : Int) (a2 : Int) (a3_0 : Int) (l3_1 : List (List Int)) : Option (Int) := if a1 < 1 then (plinthref25_Proved.j0 k a0 a1 a2 true a3_0 l3_1) else (if a1 > 4096 then (plinthref25_Proved.j0 k a0 a1 a2 true a3_0 l3_1) else (if a3_0 < 0 then (plinthref25_Proved.j0 k a0 a1 a2 true a3_0 l3_1) else (plinthref25_Proved.j0 k a0 a1 a2 (decide (a3_0 ≥ a1)) a3_0 l3_1)))
theorem plinthref25_Proved.mono_l : ∀ k, (∀ y0 y1 y2 y3 y4 y5, LeO (plinthref25_Proved.j0 k y0 y1 y2 y3 y4 y5) (plinthref25_Proved.j0 (k + 1) y0 y1 y2 y3 y4 y5)) ∧ (∀ y0 y1 y2 y3 y4 y5 y6, LeO (plinthref25_Proved.l0 k y0 y1 y2 y3 y4 y5 y6) (plinthref25_Proved.l0 (k + 1) y0 y1 y2 y3 y4 y5 y6))
 | 0 => ⟨fun _ _ _ _ _ _ r h => by simp [plinthref25_Proved.j0] at h, fun _ _ _ _ _ _ _ r h => by simp [plinthref25_Proved.l0] at h⟩
 | k + 1 => by
  obtain ⟨ih0, ih1⟩ := plinthref25_Proved.mono_l k
  refine ⟨?_, ?_⟩
  ·intro y0 y1 y2 y3 y4 y5
   unfold plinthref25_Proved.j0
   repeat' first
   | (with_reducible exact ih0 _ _ _ _ _ _)
   | (with_reducible exact ih1 _ _ _ _ _ _ _)
   | (with_reducible exact plinthref25_Row.mono _ _)
   | (with_reducible exact LeO.refl _)
   | (with_reducible exact LeO.none _)
   | (with_reducible refine LeO.ite ?_ ?_)
   | (with_reducible refine LeO.bind ?_ (fun _ => ?_))
   | exact ih0 _ _ _ _ _ _
   | exact ih1 _ _ _ _ _ _ _
   | exact plinthref25_Row.mono _ _
   | exact LeO.none _
   | refine LeO.ite ?_ ?_
   | refine LeO.bind ?_ (fun _ => ?_)
  ·intro y0 y1 y2 y3 y4 y5 y6
   unfold plinthref25_Proved.l0
   repeat' first
   | (with_reducible exact ih0 _ _ _ _ _ _)
   | (with_reducible exact ih1 _ _ _ _ _ _ _)
   | (with_reducible exact plinthref25_Row.mono _ _)
   | (with_reducible exact LeO.refl _)
   | (with_reducible exact LeO.none _)
   | (with_reducible refine LeO.ite ?_ ?_)
   | (with_reducible refine LeO.bind ?_ (fun _ => ?_))
   | exact ih0 _ _ _ _ _ _
   | exact ih1 _ _ _ _ _ _ _
   | exact plinthref25_Row.mono _ _
   | exact LeO.none _
   | refine LeO.ite ?_ ?_
   | refine LeO.bind ?_ (fun _ => ?_)
theorem plinthref25_Proved.mono : ∀ a0 a1 a2 a3 a4 k, LeO (plinthref25_Proved.f k a0 a1 a2 a3 a4) (plinthref25_Proved.f (k + 1) a0 a1 a2 a3 a4) := by
 intro a0 a1 a2 a3 a4 k
 obtain ⟨ih0, ih1⟩ := plinthref25_Proved.mono_l k
 unfold plinthref25_Proved.f
 repeat' first
   | (with_reducible exact ih0 _ _ _ _ _ _)
   | (with_reducible exact ih1 _ _ _ _ _ _ _)
   | (with_reducible exact plinthref25_Row.mono _ _)
   | (with_reducible exact LeO.refl _)
   | (with_reducible exact LeO.none _)
   | (with_reducible refine LeO.ite ?_ ?_)
   | (with_reducible refine LeO.bind ?_ (fun _ => ?_))
   | exact ih0 _ _ _ _ _ _
   | exact ih1 _ _ _ _ _ _ _
   | exact plinthref25_Row.mono _ _
   | exact LeO.none _
   | refine LeO.ite ?_ ?_
   | refine LeO.bind ?_ (fun _ => ?_)
set_option maxHeartbeats 8000000 in
set_option maxRecDepth 100000 in
theorem plinthref25_Proved.calls (k : Nat) (a0 : Int) (a1 : Int) (a2 : Int) (a3_0 : Int) (A3_1 : Option Addr) (c3_1 : Nat) (l3_1 : List (List Int)) (r : Int) (w : World) (hr3_1 : Kd.C (Kd.slice 25 (Kd.int .u32)) w A3_1 l3_1.length l3_1) (hc3_1 : l3_1.length ≤ c3_1) (h : plinthref25_Proved.f k a0 a1 a2 a3_0 l3_1 = some r) :
  Calls Try.prog 18 #[.int .u32 a0, .int .i64 a1, .int .u32 a2, .agg #[.int .i64 a3_0, .slice A3_1 l3_1.length c3_1]] w fun e w' => e = .returned (.int .i64 r) ∧ Below w.heap.size w w' := by
 have hu27 := Try.underlying27
 have HR3_1 := Aside0.mk hr3_1
 have HC3_1 := Aside0.mk hc3_1
 clear hr3_1 hc3_1
 have HB := Aside0.mk (Below.refl w.heap.size w)
 have H : (if a1 < 1 then (plinthref25_Proved.j0 k a0 a1 a2 true a3_0 l3_1) else (if a1 > 4096 then (plinthref25_Proved.j0 k a0 a1 a2 true a3_0 l3_1) else (if a3_0 < 0 then (plinthref25_Proved.j0 k a0 a1 a2 true a3_0 l3_1) else (plinthref25_Proved.j0 k a0 a1 a2 (decide (a3_0 ≥ a1)) a3_0 l3_1)))) = some r := h
 clear h
 have HC5 := Aside0.mk H
 clear H
 go_enter Try.func18, Try.ntmps18
 go_upto_region 1 with (first | ((with_reducible refine gate_dst (N := 7) rfl ?_); (try (refine gate_guard (by rfl) ?_; dsimp only)); refine box_event ?hg (N := 7) ?hd (cs := #[.int .i64 a3_0, .slice A3_1 l3_1.length c3_1]) (t := 27) ?hr ?_; (case hd => rfl); (case hg => rfl); (case hr => first | (go_simp; done) | (go_simp; rfl)); intro gb243 hg w6 hbox hb; have BK243 := Aside0.mk (hbox); have GW243 := Aside0.mk ((by rw [hg]; exact (below_size (upB0 HB.out)) : w.heap.size ≤ gb243)); have GE243 := Aside0.mk ((by rw [hg]; exact (below_size (upB0 HB.out)) : w.heap.size ≤ gb243)); replace HB := Aside0.mk (below_step (upB0 HB.out) hb); clear hb hbox hg))
 (try simp only [Act.put, List.setIfInBounds_toArray, List.set_cons_zero, List.set_cons_succ])
 go_cut [28] (fun v28 wc => ∃ (kq : Nat) (x28_4 : Bool), v28 = .bool x28_4 ∧ Aside0 (plinthref25_Proved.j0 kq a0 a1 a2 x28_4 a3_0 l3_1 = some r) ∧ Aside0 (kq ≤ k) ∧ Aside0 (wc.heap[gb243]? = some (.cells #[.int .i64 a3_0, (.slice A3_1 l3_1.length c3_1)] 27 (0, 0))) ∧ Aside0 (Below w.heap.size w wc))
 case first =>
  have H := HC5.out
  clear HC5
  by_cases c7 : a1 < 1
  ·rw [if_pos c7] at H
   have c7b0 : decide (a1 < 1) = true := decide_eq_true c7
   clear c7
   (first | rw [c7b0] | (simp only [i64_w, i32_w]; rw [c7b0]) | skip)
   have H' := Aside0.mk H
   clear H
   go_wp2
   go_meet
   case rel => exact ⟨_, (true), (by first | rfl | (simp; done) | (simp [*]; done)), H', ⟨by first | omega | exact Nat.le_refl _⟩, ⟨by refine upK ?_; exact BK243.out⟩, ⟨upB1 HB.out GE243.out⟩⟩
  ·rw [if_neg c7] at H
   have c7b0 : decide (a1 < 1) = false := decide_eq_false c7
   clear c7
   (first | rw [c7b0] | (simp only [i64_w, i32_w]; rw [c7b0]) | skip)
   by_cases c8 : a1 > 4096
   ·rw [if_pos c8] at H
    have c8b0 : decide (4096 < a1) = true := decide_eq_true c8
    clear c8
    have H' := Aside0.mk H
    clear H
    go_wp2
    go_meet
    case rel => exact ⟨_, (true), (by first | rfl | (simp; done) | (simp [*]; done)), H', ⟨by first | omega | exact Nat.le_refl _⟩, ⟨by refine upK ?_; exact BK243.out⟩, ⟨upB1 HB.out GE243.out⟩⟩
   ·rw [if_neg c8] at H
    have c8b0 : decide (4096 < a1) = false := decide_eq_false c8
    clear c8
    by_cases c9 : a3_0 < 0
    ·rw [if_pos c9] at H
     have c9b0 : decide (a3_0 < 0) = true := decide_eq_true c9
     clear c9
     have H' := Aside0.mk H
     clear H
     obtain ⟨hcz10_0, hcz10_1, hfz10_0, hfz10_1⟩ := cells2 BK243.out
     go_wp2
     go_meet
     case rel => exact ⟨_, (true), (by first | rfl | (simp; done) | (simp [*]; done)), H', ⟨by first | omega | exact Nat.le_refl _⟩, ⟨by refine upK ?_; exact BK243.out⟩, ⟨upB1 HB.out GE243.out⟩⟩
    ·rw [if_neg c9] at H
     have c9b0 : decide (a3_0 < 0) = false := decide_eq_false c9
     clear c9
     have H' := Aside0.mk H
     clear H
     obtain ⟨hcz11_0, hcz11_1, hfz11_0, hfz11_1⟩ := cells2 BK243.out
     go_wp2
     go_meet
     case rel => exact ⟨_, (decide (a3_0 ≥ a1)), (by first | rfl | (simp; done) | (simp [*]; done)), H', ⟨by first | omega | exact Nat.le_refl _⟩, ⟨by refine upK ?_; exact BK243.out⟩, ⟨upB1 HB.out GE243.out⟩⟩
 case rest =>
  clear HC5
  (try clear c1); (try clear p2); (try clear c3); (try clear c7); (try clear c7b0); (try clear c8); (try clear c8b0); (try clear c9); (try clear c9b0); (try clear hcz10_0); (try clear hcz10_1); (try clear hcz11_0); (try clear hcz11_1); (try clear hfz10_0); (try clear hfz10_1); (try clear hfz11_0); (try clear hfz11_1)
  obtain ⟨kq, x28_4, rfl, HA, HJ4, BK243, HB⟩ := hcut
  cases kq with
  | zero => exact absurd HA.out (by simp [plinthref25_Proved.j0])
  | succ kj4 =>
   have H := HA.out
   clear HA
   simp only [plinthref25_Proved.j0] at H
   by_cases c12 : x28_4 = true
   ·subst c12
    have H1 : (some 251) = some r := by rw [if_pos rfl] at H; exact H
    clear H
    have H := H1
    clear H1
    obtain rfl := Option.some.inj H
    go_wp2
    go_ret
    exact ⟨by first | rfl | (simp [errW_none, errW_some] <;> rfl) | (simp [*, errW_none, errW_some] <;> rfl), upB1 HB.out GE243.out⟩
   ·replace c12 := Bool.eq_false_iff.mpr c12
    subst c12
    have H1 : (plinthref25_Proved.l0 kj4 a0 a1 a2 a3_0 0 a3_0 l3_1) = some r := by rw [if_neg (show ¬ (false = true) by decide)] at H; exact H
    clear H
    have H := H1
    clear H1
    have H' := Aside0.mk H
    clear H
    obtain ⟨hcz13_0, hcz13_1, hfz13_0, hfz13_1⟩ := cells2 BK243.out
    go_wp2
    go_loopg [1, 2, 9, 10] kj4 (fun kq v1 v2 v9 v10 w' => ∃ (x1_2 : Int) (x2_2 : Int) (x9_2 : Int) (x10_2 : Int), v1 = .int .i64 x1_2 ∧ v2 = .int .u32 x2_2 ∧ v9 = .int .i64 x9_2 ∧ v10 = .int .i64 x10_2 ∧ Aside0 (plinthref25_Proved.l0 kq a0 x1_2 x2_2 x9_2 x10_2 a3_0 l3_1 = some r) ∧ Aside0 (kq ≤ kj4) ∧ Aside0 (w'.heap[gb243]? = some (.cells #[.int .i64 a3_0, (.slice A3_1 l3_1.length c3_1)] 27 (0, 0))) ∧ Aside0 (Below w.heap.size w w'))
    case atStart => exact ⟨(a1), (a2), (a3_0), (0), (by first | rfl | (simp; done) | (simp [*]; done)), (by first | rfl | (simp; done) | (simp [*]; done)), (by first | rfl | (simp; done) | (simp [*]; done)), (by first | rfl | (simp; done) | (simp [*]; done)), H', ⟨Nat.le_refl _⟩, ⟨by refine upK ?_; exact BK243.out⟩, ⟨upB1 HB.out GE243.out⟩⟩
    case round =>
     clear H'
     (try clear c1); (try clear p2); (try clear c3); (try clear c7); (try clear c7b0); (try clear c8); (try clear c8b0); (try clear c9); (try clear c9b0); (try clear c12); (try clear hcz10_0); (try clear hcz10_1); (try clear hcz11_0); (try clear hcz11_1); (try clear hcz13_0); (try clear hcz13_1); (try clear hfz10_0); (try clear hfz10_1); (try clear hfz11_0); (try clear hfz11_1); (try clear hfz13_0); (try clear hfz13_1); (try clear p2)
     obtain ⟨x1_2, x2_2, x9_2, x10_2, rfl, rfl, rfl, rfl, HA, HK2, BK243, HB⟩ := hrel
     cases gk with
     | zero => exact absurd HA.out (by simp [plinthref25_Proved.l0])
     | succ k2 =>
      have H := HA.out
      clear HA
      simp only [plinthref25_Proved.l0] at H
      by_cases c14 : x1_2 > 1
      ·rw [if_pos c14] at H
       have c14b0 : decide (1 < x1_2) = true := decide_eq_true c14
       clear c14
       by_cases c15 : x10_2 ≥ (l3_1.length : Int)
       ·rw [if_pos c15] at H
        have c15b0 : decide ((l3_1.length : Int) ≤ x10_2) = true := decide_eq_true c15
        clear c15
        obtain rfl := Option.some.inj H
        obtain ⟨hcz16_0, hcz16_1, hfz16_0, hfz16_1⟩ := cells2 BK243.out
        go_wp2
        go_ret
        exact ⟨by first | rfl | (simp [errW_none, errW_some] <;> rfl) | (simp [*, errW_none, errW_some] <;> rfl), upB1 HB.out GE243.out⟩
       ·rw [if_neg c15] at H
        have c15b0 : decide ((l3_1.length : Int) ≤ x10_2) = false := decide_eq_false c15
        clear c15
        by_cases c17 : 0 ≤ x10_2
        ·rw [if_pos c17] at H
         have c17b0 : decide (0 ≤ x10_2) = true := decide_eq_true c17
         clear c17
         by_cases c18 : x10_2 < (l3_1.length : Int)
         ·rw [if_pos c18] at H
          have c18b0 : decide (x10_2 < (l3_1.length : Int)) = true := decide_eq_true c18
          clear c18
          obtain ⟨ji19, hji19⟩ : ∃ j_ : Int, (mn 4 (wrap64 (x1_2 - (wrap64 ((wrap64 (Int.tdiv x9_2 4)) * 4))))) = j_ := ⟨_, rfl⟩
          replace H : (if ((rd_L1 l3_1 x10_2).length : Int) = (ji19) then (if 0 ≤ (wrap64 (x9_2 - (wrap64 ((wrap64 (Int.tdiv x9_2 4)) * 4)))) then (if (wrap64 (x9_2 - (wrap64 ((wrap64 (Int.tdiv x9_2 4)) * 4)))) < ((rd_L1 l3_1 x10_2).length : Int) then (if (rd (rd_L1 l3_1 x10_2) (wrap64 (x9_2 - (wrap64 ((wrap64 (Int.tdiv x9_2 4)) * 4))))) = x2_2 then ((plinthref25_Row.f k2 (rd_L1 l3_1 x10_2)).bind fun t248 => (plinthref25_Proved.l0 k2 a0 (wrap64 (Int.tdiv (wrap64 ((wrap64 (x1_2 + 4)) - 1)) 4)) t248 (wrap64 (Int.tdiv x9_2 4)) (wrap64 (x10_2 + 1)) a3_0 l3_1)) else (some 251)) else (none)) else (none)) else (some 251)) = some r := by first | (rw [hji19] at H; exact H) | (simp only [hji19] at H ⊢; exact H)
          have hji19_ : (if (wrap64 (x1_2 - (wrap64 ((wrap64 (Int.tdiv x9_2 4)) * 4)))) < 4 then (wrap64 (x1_2 - (wrap64 ((wrap64 (Int.tdiv x9_2 4)) * 4)))) else 4) = ji19 := hji19
          by_cases c20 : ((rd_L1 l3_1 x10_2).length : Int) = (ji19)
          ·rw [if_pos c20] at H
           have c20b0 : (((rd_L1 l3_1 x10_2).length : Int) == (ji19)) = true := beq_iff_eq.mpr c20
           have c20b1 : (((rd_L1 l3_1 x10_2).length : Int) != (ji19)) = false := bne_eq_false_iff_eq.mpr c20
           clear c20
           obtain ⟨ji21, hji21⟩ : ∃ j_ : Int, (wrap64 (x9_2 - (wrap64 ((wrap64 (Int.tdiv x9_2 4)) * 4)))) = j_ := ⟨_, rfl⟩
           replace H : (if 0 ≤ (ji21) then (if (ji21) < ((rd_L1 l3_1 x10_2).length : Int) then (if (rd (rd_L1 l3_1 x10_2) (ji21)) = x2_2 then ((plinthref25_Row.f k2 (rd_L1 l3_1 x10_2)).bind fun t248 => (plinthref25_Proved.l0 k2 a0 (wrap64 (Int.tdiv (wrap64 ((wrap64 (x1_2 + 4)) - 1)) 4)) t248 (wrap64 (Int.tdiv x9_2 4)) (wrap64 (x10_2 + 1)) a3_0 l3_1)) else (some 251)) else (none)) else (none)) = some r := by first | (rw [hji21] at H; exact H) | (simp only [hji21] at H ⊢; exact H)
           have hji21w : (IntKind.i64.wrap (x9_2 - (wrap64 ((wrap64 (Int.tdiv x9_2 4)) * 4)))) = ji21 := (i64_w _).trans hji21
           by_cases c22 : 0 ≤ (ji21)
           ·rw [if_pos c22] at H
            have c22b0 : decide (0 ≤ (ji21)) = true := decide_eq_true c22
            clear c22
            by_cases c23 : (ji21) < ((rd_L1 l3_1 x10_2).length : Int)
            ·rw [if_pos c23] at H
             have c23b0 : decide ((ji21) < ((rd_L1 l3_1 x10_2).length : Int)) = true := decide_eq_true c23
             clear c23
             by_cases c24 : (rd (rd_L1 l3_1 x10_2) (ji21)) = x2_2
             ·rw [if_pos c24] at H
              have c24b0 : ((rd (rd_L1 l3_1 x10_2) (ji21)) == x2_2) = true := beq_iff_eq.mpr c24
              have c24b1 : ((rd (rd_L1 l3_1 x10_2) (ji21)) != x2_2) = false := bne_eq_false_iff_eq.mpr c24
              clear c24
              replace H := Option.bind_eq_some_iff.mp H
              obtain ⟨t248, A250, H⟩ := H
              replace H : (plinthref25_Proved.l0 k2 a0 (wrap64 (Int.tdiv (wrap64 ((wrap64 (x1_2 + 4)) - 1)) 4)) t248 (wrap64 (Int.tdiv x9_2 4)) (wrap64 (x10_2 + 1)) a3_0 l3_1) = some r := H
              have A25 := Aside0.mk A250
              clear A250
              have H' := Aside0.mk H
              clear H
              obtain ⟨hcz26_0, hcz26_1, hfz26_0, hfz26_1⟩ := cells2 BK243.out
              have p244 : 0 ≤ (x10_2 : Int) := of_decide_eq_true (by first | (with_reducible assumption) | assumption)
              have q244 : x10_2 < (l3_1.length : Int) := of_decide_eq_true (by first | (with_reducible assumption) | assumption)
              obtain ⟨ad244, A244_0, c244_0, e244, hx244_0, hl244_0, hi244_0⟩ := at_L1 HR3_1.out x10_2 p244 q244
              cases e244
              replace hx244_0 := (HB.out.cell (World.block_lt_of_cell? w _ hx244_0)).trans hx244_0
              have HR244_0 := Aside0.mk hi244_0
              have HC244_0 := Aside0.mk hl244_0
              clear hi244_0 hl244_0
              replace p244 := eq_true p244
              replace q244 := eq_true q244
              have p245 : 0 ≤ (x10_2 : Int) := of_decide_eq_true (by first | (with_reducible assumption) | assumption)
              have q245 : x10_2 < (l3_1.length : Int) := of_decide_eq_true (by first | (with_reducible assumption) | assumption)
              obtain ⟨ad245, A245_0, c245_0, e245, hx245_0, hl245_0, hi245_0⟩ := at_L1 HR3_1.out x10_2 p245 q245
              obtain rfl : ad244 = ad245 := (by injection e245)
              replace hx245_0 := (HB.out.cell (World.block_lt_of_cell? w _ hx245_0)).trans hx245_0
              have HR245_0 := Aside0.mk hi245_0
              have HC245_0 := Aside0.mk hl245_0
              clear hi245_0 hl245_0
              replace p245 := eq_true p245
              replace q245 := eq_true q245
              have ea_ := Option.some.inj (hx244_0.symm.trans hx245_0)
              injection ea_ with ea_ en_ ec_
              subst ea_
              subst ec_
              clear en_
              have p246 : 0 ≤ ((ji21) : Int) := of_decide_eq_true (by first | (with_reducible assumption) | assumption)
              have q246 : (ji21) < ((rd_L1 l3_1 x10_2).length : Int) := of_decide_eq_true (by first | (with_reducible assumption) | assumption)
              obtain ⟨ad246, e246, hx246_0⟩ := Kd.at_int HR245_0.out (ji21) p246 q246
              cases e246
              replace hx246_0 := (HB.out.cell (World.block_lt_of_cell? w _ hx246_0)).trans hx246_0
              replace p246 := eq_true p246
              replace q246 := eq_true q246
              have p247 : 0 ≤ (x10_2 : Int) := of_decide_eq_true (by first | (with_reducible assumption) | assumption)
              have q247 : x10_2 < (l3_1.length : Int) := of_decide_eq_true (by first | (with_reducible assumption) | assumption)
              obtain ⟨ad247, A247_0, c247_0, e247, hx247_0, hl247_0, hi247_0⟩ := at_L1 HR3_1.out x10_2 p247 q247
              obtain rfl : ad244 = ad247 := (by injection e247)
              replace hx247_0 := (HB.out.cell (World.block_lt_of_cell? w _ hx247_0)).trans hx247_0
              have HR247_0 := Aside0.mk hi247_0
              have HC247_0 := Aside0.mk hl247_0
              clear hi247_0 hl247_0
              replace p247 := eq_true p247
              replace q247 := eq_true q247
              have ea_ := Option.some.inj (hx244_0.symm.trans hx247_0)
              injection ea_ with ea_ en_ ec_
              subst ea_
              subst ec_
              clear en_
              go_wp2_with (first | ((with_reducible refine gate_callee (f := 26) rfl ?_); refine goesL_ (some 73) rfl rfl Try.func26 (by kernel_rfl) rfl #[.slice (some ad246) (rd_L1 l3_1 x10_2).length c244_0] rfl argA ?_; (with_reducible refine (plinthref25_Row.calls k2 _ _ (rd_L1 l3_1 x10_2) t248 _ ?side1 ?side2 A25.out).mono ?_); (case side1 => exact upC ((Kd.C_below HR247_0.out HB.out))); (case side2 => exact HC247_0.out); rintro e w27 ⟨rfl, hb⟩; refine ⟨_, rfl, ?_⟩; replace BK243 := Aside0.mk (blk_below (upK BK243.out) hb); replace HB := Aside0.mk (below_step (upB1 HB.out GE243.out) hb); (try clear hb); (try clear hb2); (try clear hk); (try clear hi)))
              go_roundg k2
              case measure => have := HJ4.out; have := HK2.out; omega
              case rel => exact ⟨(wrap64 (Int.tdiv (wrap64 ((wrap64 (x1_2 + 4)) - 1)) 4)), (t248), (wrap64 (Int.tdiv x9_2 4)), (wrap64 (x10_2 + 1)), (by first | rfl | (simp; done) | (simp [*]; done)), (by first | rfl | (simp; done) | (simp [*]; done)), (by first | rfl | (simp; done) | (simp [*]; done)), (by first | rfl | (simp; done) | (simp [*]; done)), H', ⟨by have := HJ4.out; have := HK2.out; omega⟩, ⟨by refine upK ?_; exact BK243.out⟩, ⟨upB1 HB.out GE243.out⟩⟩
             ·rw [if_neg c24] at H
              have c24b0 : ((rd (rd_L1 l3_1 x10_2) (ji21)) == x2_2) = false := beq_eq_false_iff_ne.mpr c24
              have c24b1 : ((rd (rd_L1 l3_1 x10_2) (ji21)) != x2_2) = true := bne_iff_ne.mpr c24
              obtain rfl := Option.some.inj H
              obtain ⟨hcz28_0, hcz28_1, hfz28_0, hfz28_1⟩ := cells2 BK243.out
              have p244 : 0 ≤ (x10_2 : Int) := of_decide_eq_true (by first | (with_reducible assumption) | assumption)
              have q244 : x10_2 < (l3_1.length : Int) := of_decide_eq_true (by first | (with_reducible assumption) | assumption)
              obtain ⟨ad244, A244_0, c244_0, e244, hx244_0, hl244_0, hi244_0⟩ := at_L1 HR3_1.out x10_2 p244 q244
              cases e244
              replace hx244_0 := (HB.out.cell (World.block_lt_of_cell? w _ hx244_0)).trans hx244_0
              have HR244_0 := Aside0.mk hi244_0
              have HC244_0 := Aside0.mk hl244_0
              clear hi244_0 hl244_0
              replace p244 := eq_true p244
              replace q244 := eq_true q244
              have p245 : 0 ≤ (x10_2 : Int) := of_decide_eq_true (by first | (with_reducible assumption) | assumption)
              have q245 : x10_2 < (l3_1.length : Int) := of_decide_eq_true (by first | (with_reducible assumption) | assumption)
              obtain ⟨ad245, A245_0, c245_0, e245, hx245_0, hl245_0, hi245_0⟩ := at_L1 HR3_1.out x10_2 p245 q245
              obtain rfl : ad244 = ad245 := (by injection e245)
              replace hx245_0 := (HB.out.cell (World.block_lt_of_cell? w _ hx245_0)).trans hx245_0
              have HR245_0 := Aside0.mk hi245_0
              have HC245_0 := Aside0.mk hl245_0
              clear hi245_0 hl245_0
              replace p245 := eq_true p245
              replace q245 := eq_true q245
              have ea_ := Option.some.inj (hx244_0.symm.trans hx245_0)
              injection ea_ with ea_ en_ ec_
              subst ea_
              subst ec_
              clear en_
              have p246 : 0 ≤ ((ji21) : Int) := of_decide_eq_true (by first | (with_reducible assumption) | assumption)
              have q246 : (ji21) < ((rd_L1 l3_1 x10_2).length : Int) := of_decide_eq_true (by first | (with_reducible assumption) | assumption)
              obtain ⟨ad246, e246, hx246_0⟩ := Kd.at_int HR245_0.out (ji21) p246 q246
              cases e246
              replace hx246_0 := (HB.out.cell (World.block_lt_of_cell? w _ hx246_0)).trans hx246_0
              replace p246 := eq_true p246
              replace q246 := eq_true q246
              go_wp2
              go_ret
              exact ⟨by first | rfl | (simp [errW_none, errW_some] <;> rfl) | (simp only [← hji19, ← hji21]; first | rfl | (simp [errW_none, errW_some] <;> rfl)) | (simp [*, errW_none, errW_some] <;> rfl), upB1 HB.out GE243.out⟩
            ·rw [if_neg c23] at H
             exact absurd H (by simp)
           ·rw [if_neg c22] at H
            exact absurd H (by simp)
          ·rw [if_neg c20] at H
           have c20b0 : (((rd_L1 l3_1 x10_2).length : Int) == (ji19)) = false := beq_eq_false_iff_ne.mpr c20
           have c20b1 : (((rd_L1 l3_1 x10_2).length : Int) != (ji19)) = true := bne_iff_ne.mpr c20
           obtain rfl := Option.some.inj H
           obtain ⟨hcz29_0, hcz29_1, hfz29_0, hfz29_1⟩ := cells2 BK243.out
           have p244 : 0 ≤ (x10_2 : Int) := of_decide_eq_true (by first | (with_reducible assumption) | assumption)
           have q244 : x10_2 < (l3_1.length : Int) := of_decide_eq_true (by first | (with_reducible assumption) | assumption)
           obtain ⟨ad244, A244_0, c244_0, e244, hx244_0, hl244_0, hi244_0⟩ := at_L1 HR3_1.out x10_2 p244 q244
           cases e244
           replace hx244_0 := (HB.out.cell (World.block_lt_of_cell? w _ hx244_0)).trans hx244_0
           have HR244_0 := Aside0.mk hi244_0
           have HC244_0 := Aside0.mk hl244_0
           clear hi244_0 hl244_0
           replace p244 := eq_true p244
           replace q244 := eq_true q244
           go_wp2
           go_ret
           exact ⟨by first | rfl | (simp [errW_none, errW_some] <;> rfl) | (simp only [← hji19]; first | rfl | (simp [errW_none, errW_some] <;> rfl)) | (simp [*, errW_none, errW_some] <;> rfl), upB1 HB.out GE243.out⟩
         ·rw [if_neg c18] at H
          exact absurd H (by simp)
        ·rw [if_neg c17] at H
         exact absurd H (by simp)
      ·rw [if_neg c14] at H
       have c14b0 : decide (1 < x1_2) = false := decide_eq_false c14
       clear c14
       by_cases c30 : x10_2 = (l3_1.length : Int)
       ·rw [if_pos c30] at H
        have c30b0 : (x10_2 == (l3_1.length : Int)) = true := beq_iff_eq.mpr c30
        have c30b1 : (x10_2 != (l3_1.length : Int)) = false := bne_eq_false_iff_eq.mpr c30
        clear c30
        by_cases c31 : x2_2 = a0
        ·rw [if_pos c31] at H
         have c31b0 : (x2_2 == a0) = true := beq_iff_eq.mpr c31
         have c31b1 : (x2_2 != a0) = false := bne_eq_false_iff_eq.mpr c31
         clear c31
         obtain rfl := Option.some.inj H
         obtain ⟨hcz32_0, hcz32_1, hfz32_0, hfz32_1⟩ := cells2 BK243.out
         go_wp2
         go_ret
         exact ⟨by first | rfl | (simp [errW_none, errW_some] <;> rfl) | (simp [*, errW_none, errW_some] <;> rfl), upB1 HB.out GE243.out⟩
        ·rw [if_neg c31] at H
         have c31b0 : (x2_2 == a0) = false := beq_eq_false_iff_ne.mpr c31
         have c31b1 : (x2_2 != a0) = true := bne_iff_ne.mpr c31
         obtain rfl := Option.some.inj H
         obtain ⟨hcz33_0, hcz33_1, hfz33_0, hfz33_1⟩ := cells2 BK243.out
         go_wp2
         go_ret
         exact ⟨by first | rfl | (simp [errW_none, errW_some] <;> rfl) | (simp [*, errW_none, errW_some] <;> rfl), upB1 HB.out GE243.out⟩
       ·rw [if_neg c30] at H
        have c30b0 : (x10_2 == (l3_1.length : Int)) = false := beq_eq_false_iff_ne.mpr c30
        have c30b1 : (x10_2 != (l3_1.length : Int)) = true := bne_iff_ne.mpr c30
        obtain rfl := Option.some.inj H
        obtain ⟨hcz34_0, hcz34_1, hfz34_0, hfz34_1⟩ := cells2 BK243.out
        go_wp2
        go_ret
        exact ⟨by first | rfl | (simp [errW_none, errW_some] <;> rfl) | (simp [*, errW_none, errW_some] <;> rfl), upB1 HB.out GE243.out⟩

end Go.Proofs.Ytbmmddngadnofaa.F
