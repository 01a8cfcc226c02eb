-- Written by ext (this session's own program).
import Derived.Test.YtogjpilkgghidaaFx0
import Derived.Test.YtogjpilkgghidaaFx20
namespace Go.Proofs.Ytogjpilkgghidaa.F
open Go.RowKit Go.Proofs.YtogjpilkgghidaaW.PrintWords Go.Proofs.YtogjpilkgghidaaW.PrintLast Go.Proofs.YtogjpilkgghidaaW.PrintMore
attribute [local go_sem] max2_int min2_int max_two min_two max_three min_three max_four min_four   -- for this text's walks alone
set_option linter.unusedVariables false
set_option linter.unusedSimpArgs false

/-! ### plinthref01_GetText: function 39 -/
def plinthref01_GetText.f (k : Nat) (l0 : List Int) (a1 : Int) : Option (List Int × Int × Int) := (plinthref01_Get.f k l0 a1 4).bind fun bt283 => (if bt283.2.2 = 0 then (if bt283.1 > 16777216 then (some (([] : List Int), 0, 2)) else (if (wrap64 ((l0.length : Int) - bt283.2.1)) < (wrap64 (bt283.1)) then (some (([] : List Int), 0, 10)) else ((some (([] : List Int) : List Int)).bind fun y286 => (if 0 ≤ bt283.2.1 then (if bt283.2.1 ≤ (wrap64 (bt283.2.1 + (wrap64 (bt283.1)))) then (if (wrap64 (bt283.2.1 + (wrap64 (bt283.1)))) ≤ (l0.length : Int) then ((some ((l0.take ((wrap64 (bt283.2.1 + (wrap64 (bt283.1)))) : Int).toNat).drop (bt283.2.1 : Int).toNat : List Int)).bind fun y289 => (if y286.length + y289.length < 140737488355328 then (some ((y286 ++ y289), wrap64 (bt283.2.1 + (wrap64 (bt283.1))), 0)) else (none))) else (none)) else (none)) else (none))))) else (some (([] : List Int), 0, bt283.2.2)))
theorem plinthref01_GetText.mono : ∀ a0 a1 k, LeO (plinthref01_GetText.f k a0 a1) (plinthref01_GetText.f (k + 1) a0 a1) := by
  intro a0 a1 k
  unfold plinthref01_GetText.f
  repeat' first
      | (with_reducible exact plinthref01_Get.mono _ _ _ _)
      | (with_reducible exact LeO.refl _)
      | (with_reducible exact LeO.none _)
      | (with_reducible refine LeO.ite ?_ ?_)
      | (with_reducible refine LeO.bind ?_ (fun _ => ?_))
      | exact plinthref01_Get.mono _ _ _ _
      | exact LeO.none _
      | refine LeO.ite ?_ ?_
      | refine LeO.bind ?_ (fun _ => ?_)
set_option maxHeartbeats 8000000 in
set_option maxRecDepth 100000 in
theorem plinthref01_GetText.calls (k : Nat) (A0 : Option Addr) (c0 : Nat) (l0 : List Int) (a1 : Int) (r1 : List Int) (r2 : Int) (r3 : Int) (w : World) (hr0 : Kd.C (Kd.int .u8) w A0 l0.length l0) (hc0 : l0.length ≤ c0) (h : plinthref01_GetText.f k l0 a1 = some (r1, r2, r3)) :
    Calls Try.prog 39 #[.slice A0 l0.length c0, .int .i64 a1] w fun e w' => ∃ v0_ : Value, e = .returned (.tuple #[v0_, .int .i64 r2, .int .i64 r3]) ∧ Kd.R (Kd.int .u8) 5 w' w.heap.size (fun _ => True) v0_ r1 ∧ Below w.heap.size w w' := by
  have HR0 := Aside0.mk hr0
  have HC0 := Aside0.mk hc0
  clear hr0 hc0
  have HB := Aside0.mk (Below.refl w.heap.size w)
  have H : ((plinthref01_Get.f k l0 a1 4).bind fun bt283 => (if bt283.2.2 = 0 then (if bt283.1 > 16777216 then (some (([] : List Int), 0, 2)) else (if (wrap64 ((l0.length : Int) - bt283.2.1)) < (wrap64 (bt283.1)) then (some (([] : List Int), 0, 10)) else ((some (([] : List Int) : List Int)).bind fun y286 => (if 0 ≤ bt283.2.1 then (if bt283.2.1 ≤ (wrap64 (bt283.2.1 + (wrap64 (bt283.1)))) then (if (wrap64 (bt283.2.1 + (wrap64 (bt283.1)))) ≤ (l0.length : Int) then ((some ((l0.take ((wrap64 (bt283.2.1 + (wrap64 (bt283.1)))) : Int).toNat).drop (bt283.2.1 : Int).toNat : List Int)).bind fun y289 => (if y286.length + y289.length < 140737488355328 then (some ((y286 ++ y289), wrap64 (bt283.2.1 + (wrap64 (bt283.1))), 0)) else (none))) else (none)) else (none)) else (none))))) else (some (([] : List Int), 0, bt283.2.2)))) = some (r1, r2, r3) := h
  clear h
  replace H := Option.bind_eq_some_iff.mp H
  obtain ⟨⟨t283, t284, t285⟩, A30, H⟩ := H
  replace H : (if t285 = 0 then (if t283 > 16777216 then (some (([] : List Int), 0, 2)) else (if (wrap64 ((l0.length : Int) - t284)) < (wrap64 (t283)) then (some (([] : List Int), 0, 10)) else ((some (([] : List Int) : List Int)).bind fun y286 => (if 0 ≤ t284 then (if t284 ≤ (wrap64 (t284 + (wrap64 (t283)))) then (if (wrap64 (t284 + (wrap64 (t283)))) ≤ (l0.length : Int) then ((some ((l0.take ((wrap64 (t284 + (wrap64 (t283)))) : Int).toNat).drop (t284 : Int).toNat : List Int)).bind fun y289 => (if y286.length + y289.length < 140737488355328 then (some ((y286 ++ y289), wrap64 (t284 + (wrap64 (t283))), 0)) else (none))) else (none)) else (none)) else (none))))) else (some (([] : List Int), 0, t285))) = some (r1, r2, r3) := H
  have A3 := Aside0.mk A30
  clear A30
  by_cases c4 : t285 = 0
  · rw [if_pos c4] at H
    have c4b0 : (t285 == 0) = true := beq_iff_eq.mpr c4
    have c4b1 : (t285 != 0) = false := bne_eq_false_iff_eq.mpr c4
    clear c4
    by_cases c5 : t283 > 16777216
    · rw [if_pos c5] at H
      have c5b0 : decide (16777216 < t283) = true := decide_eq_true c5
      clear c5
      simp only [Option.some.injEq, Prod.mk.injEq] at H
      obtain ⟨rfl, rfl, rfl⟩ := H
      go_enter Try.func39, Try.ntmps39
      go_wp2_with (first | ((with_reducible refine gate_callee (f := 38) rfl ?_); refine goesL_ (some 13) rfl rfl Try.func38 (by kernel_rfl) rfl #[.slice A0 l0.length c0, .int .i64 a1, .int .i64 4] rfl argA ?_; (with_reducible refine (plinthref01_Get.calls k _ _ l0 a1 4 t283 t284 t285 _ ?side1 ?side2 A3.out).mono ?_); (case side1 => exact upC (HR0.out)); (case side2 => exact HC0.out); rintro e w' ⟨rfl, ⟨nd, rfl⟩⟩; refine ⟨_, rfl, ?_⟩))
      go_ret3
      exact ⟨_, by first | rfl | (simp [errW_none, errW_some] <;> rfl) | (simp [*, errW_none, errW_some] <;> rfl), by first | exact Kd.R_nil _ _ _ _ _ | exact Kd.N_nil _ _ _ _ _ | exact Kd.V_nil _ _ _ _ _ | exact Kd.Q_nil _ _ _ _ _ | exact Kd.S_nil _ _ _ _ _, upB0 HB.out⟩
    · rw [if_neg c5] at H
      have c5b0 : decide (16777216 < t283) = false := decide_eq_false c5
      clear c5
      by_cases c6 : (wrap64 ((l0.length : Int) - t284)) < (wrap64 (t283))
      · rw [if_pos c6] at H
        have c6b0 : decide ((wrap64 ((l0.length : Int) - t284)) < (wrap64 (t283))) = true := decide_eq_true c6
        clear c6
        simp only [Option.some.injEq, Prod.mk.injEq] at H
        obtain ⟨rfl, rfl, rfl⟩ := H
        go_enter Try.func39, Try.ntmps39
        go_wp2_with (first | ((with_reducible refine gate_callee (f := 38) rfl ?_); refine goesL_ (some 13) rfl rfl Try.func38 (by kernel_rfl) rfl #[.slice A0 l0.length c0, .int .i64 a1, .int .i64 4] rfl argA ?_; (with_reducible refine (plinthref01_Get.calls k _ _ l0 a1 4 t283 t284 t285 _ ?side1 ?side2 A3.out).mono ?_); (case side1 => exact upC (HR0.out)); (case side2 => exact HC0.out); rintro e w' ⟨rfl, ⟨nd, rfl⟩⟩; refine ⟨_, rfl, ?_⟩))
        go_ret3
        exact ⟨_, by first | rfl | (simp [errW_none, errW_some] <;> rfl) | (simp [*, errW_none, errW_some] <;> rfl), by first | exact Kd.R_nil _ _ _ _ _ | exact Kd.N_nil _ _ _ _ _ | exact Kd.V_nil _ _ _ _ _ | exact Kd.Q_nil _ _ _ _ _ | exact Kd.S_nil _ _ _ _ _, upB0 HB.out⟩
      · rw [if_neg c6] at H
        have c6b0 : decide ((wrap64 ((l0.length : Int) - t284)) < (wrap64 (t283))) = false := decide_eq_false c6
        clear c6
        obtain ⟨y286, hy286⟩ : ∃ y_ : List Int, y_ = (([] : List Int)) := ⟨_, rfl⟩
        replace H : (if 0 ≤ t284 then (if t284 ≤ (wrap64 (t284 + (wrap64 (t283)))) then (if (wrap64 (t284 + (wrap64 (t283)))) ≤ (l0.length : Int) then ((some ((l0.take ((wrap64 (t284 + (wrap64 (t283)))) : Int).toNat).drop (t284 : Int).toNat : List Int)).bind fun y289 => (if y286.length + y289.length < 140737488355328 then (some ((y286 ++ y289), wrap64 (t284 + (wrap64 (t283))), 0)) else (none))) else (none)) else (none)) else (none)) = some (r1, r2, r3) := by first | (rw [hy286]; with_reducible exact H) | (have H2_ := (Option.bind_some _ _).symm.trans H; rw [hy286]; with_reducible exact H2_) | (have H2_ := (Option.bind_some _ _).symm.trans H; with_reducible exact H2_) | with_reducible exact H | (rw [hy286]; exact H) | exact H
        have Ny286 := Aside0.mk hy286
        clear hy286
        by_cases c7 : 0 ≤ t284
        · rw [if_pos c7] at H
          have c7b0 := eq_true c7
          have c7b1 : decide (0 ≤ t284) = true := decide_eq_true c7
          clear c7
          by_cases c8 : t284 ≤ (wrap64 (t284 + (wrap64 (t283))))
          · rw [if_pos c8] at H
            have c8b0 := eq_true c8
            have c8b1 : decide (t284 ≤ (wrap64 (t284 + (wrap64 (t283))))) = true := decide_eq_true c8
            by_cases c9 : (wrap64 (t284 + (wrap64 (t283)))) ≤ (l0.length : Int)
            · rw [if_pos c9] at H
              have c9b0 := eq_true c9
              have c9b1 : decide ((wrap64 (t284 + (wrap64 (t283)))) ≤ (l0.length : Int)) = true := decide_eq_true c9
              obtain ⟨y289, hy289⟩ : ∃ y_ : List Int, y_ = ((l0.take ((wrap64 (t284 + (wrap64 (t283)))) : Int).toNat).drop (t284 : Int).toNat) := ⟨_, rfl⟩
              replace H : (if y286.length + y289.length < 140737488355328 then (some ((y286 ++ y289), wrap64 (t284 + (wrap64 (t283))), 0)) else (none)) = some (r1, r2, r3) := by first | (rw [hy289]; with_reducible exact H) | (have H2_ := (Option.bind_some _ _).symm.trans H; rw [hy289]; with_reducible exact H2_) | (have H2_ := (Option.bind_some _ _).symm.trans H; with_reducible exact H2_) | with_reducible exact H | (rw [hy289]; exact H) | exact H
              have Ny289 := Aside0.mk hy289
              clear hy289
              by_cases c10 : y286.length + y289.length < 140737488355328
              · rw [if_pos c10] at H
                have LMc10 := Aside0.mk c10
                clear c10
                obtain ⟨y293, hy293⟩ : ∃ y_ : List Int, y_ = (y286 ++ y289) := ⟨_, rfl⟩
                replace H : (some (y293, wrap64 (t284 + (wrap64 (t283))), 0)) = some (r1, r2, r3) := by first | (rw [hy293]; with_reducible exact H) | (have H2_ := (Option.bind_some _ _).symm.trans H; rw [hy293]; with_reducible exact H2_) | (have H2_ := (Option.bind_some _ _).symm.trans H; with_reducible exact H2_) | with_reducible exact H | (rw [hy293]; exact H) | exact H
                have Ny293 := Aside0.mk hy293
                clear hy293
                simp only [Option.some.injEq, Prod.mk.injEq] at H
                obtain ⟨rfl, rfl, rfl⟩ := H
                go_enter Try.func39, Try.ntmps39
                go_wp2_with (first | ((with_reducible refine gate_callee (f := 38) rfl ?_); refine goesL_ (some 13) rfl rfl Try.func38 (by kernel_rfl) rfl #[.slice A0 l0.length c0, .int .i64 a1, .int .i64 4] rfl argA ?_; (with_reducible refine (plinthref01_Get.calls k _ _ l0 a1 4 t283 t284 t285 _ ?side1 ?side2 A3.out).mono ?_); (case side1 => exact upC (HR0.out)); (case side2 => exact HC0.out); rintro e w' ⟨rfl, ⟨nd, rfl⟩⟩; refine ⟨_, rfl, ?_⟩) | ((with_reducible refine gate_dst (N := 29) rfl ?_); refine Kd.R_lit (Kd.int .u8) _ 5 ?hg (N := 29) ?hd (xs := ([] : List Int)) (inner := []) (ok := fun _ => True) (okp := fun _ => True) ?hr ?hp (fun _ hk => hk) trivial (Below.refl _ _) (Nat.le_refl _) (by simp) ?_; (case hd => rfl); (case hg => rfl); (case hr => first | (go_simp; done) | (go_simp; rfl)); (case hp => exact (Reps.none _ _)); intro v287 w11 ho12 hb hg_ hnew_; clear hg_ hnew_; (first | rw [← Ny286.out] at ho12 | (simp only [Int.reduceToNat] at ho12; rw [← Ny286.out] at ho12)); have HO288 := Aside0.mk (Kd.R_lower ho12 (below_size (upB0 HB.out))); replace HB := Aside0.mk (below_step (upB0 HB.out) hb); clear hb ho12; have q13 : ((wrap64 (t284 + (wrap64 (t283)))) : Int) ≤ ((l0.length : Int) : Int) := of_decide_eq_true (by first | (with_reducible assumption) | assumption); obtain ⟨i013, hi013, _, hsz13, _⟩ := info_parts info5; have hroom13 : l0.length ≤ c0 := HC0.out; have hC13 : Kd.C (Kd.int .u8) _ A0 l0.length l0 := HR0.out; have ql13 : (t284 : Int) ≤ ((wrap64 (t284 + (wrap64 (t283)))) : Int) := of_decide_eq_true (by first | (with_reducible assumption) | assumption); have q013 : (0 : Int) ≤ (t284 : Int) := of_decide_eq_true (by first | (with_reducible assumption) | assumption); have hcut13 := cut_mid (P := Try.prog) 25 5 .i64 .i64 Try.underlying25 hi013 1 hsz13 A0 l0.length c0 t284 (wrap64 (t284 + (wrap64 (t283)))) q013 ql13 q13 hroom13; have hr13 := Kd.C_mid (lo := (t284 : Int).toNat) (hi := ((wrap64 (t284 + (wrap64 (t283)))) : Int).toNat) (c := c0) hC13 (by omega) (by omega) hroom13; obtain ⟨A13, hA13⟩ : ∃ A1, A1 = (if c0 = (t284 : Int).toNat then A0 else (A0 : Option Addr).map (·.add ((t284 : Int).toNat * 1))) := ⟨_, rfl⟩; obtain ⟨c13, hc13⟩ : ∃ c1, c1 = c0 - (t284 : Int).toNat := ⟨_, rfl⟩; have hy13 : y289.length = ((wrap64 (t284 + (wrap64 (t283)))) : Int).toNat - (t284 : Int).toNat := (by rw [Ny289.out, List.length_drop, List.length_take] <;> omega); rw [show ((l0).take ((wrap64 (t284 + (wrap64 (t283)))) : Int).toNat).drop (t284 : Int).toNat = y289 from Ny289.out.symm] at hr13; replace hr13 : Kd.C (Kd.int .u8) _ A13 y289.length y289 := (by rw [hA13]; exact hr13); rw [← hy13, ← hA13, ← hc13] at hcut13; have HR292 := Aside0.mk hr13; have HC292 := Aside0.mk (show y289.length ≤ c13 from by rw [hy13, hc13]; exact Nat.sub_le_sub_right (Nat.le_trans (by omega) hroom13) _); clear hr13 hC13 hroom13 hi013 hsz13 hc13; have KY13 := Aside0.mk hy13; have KA13 := Aside0.mk hA13; clear hy13 hA13; replace q13 := eq_true q13) | ((with_reducible refine gate_builtin (b := .append) (xs := #[.tmp 29, .tmp 36]) rfl ?_); at_builtin; refine Kd.R_append_rows (Kd.int .u8) (w0 := w) w.heap.size rfl (.tmp 29) (.tmp 36) 25 5 (.int .u8 0) 1 rfl Try.underlying25 info5 rfl (by decide) (by omega) v287 y286 y289 _ _ _ (fun _ => True) (fun _ => False) rfl rfl ?aO ?aR (fun _ _ h => h) (fun _ h => h.elim) ?aF ?aB ?aS ?aL ?_; (case aR => exact upC ((Kd.C_below HR292.out HB.out))); (case aB => exact (upB0 HB.out)); (case aF => exact (fun _ _ => trivial)); (case aO => exact (upR HO288.out)); (case aS => exact (below_size (upB0 HB.out))); (case aL => have := LMc10.out; omega); intro v294 w14 ho hb hg hat; rw [← Ny293.out] at ho; have n0_ := Aside0.mk (hb); have n1_ := Aside0.mk (ho); clear HB; clear HO288; have HB := n0_; have HO295 := n1_; clear n0_ n1_; clear ho hb hg hat))
                go_ret3
                exact ⟨_, by first | rfl | (simp [errW_none, errW_some] <;> rfl) | (simp [*, errW_none, errW_some] <;> rfl), by refine upR ?_; exact HO295.out, upB0 HB.out⟩
              · rw [if_neg c10] at H
                exact absurd H (by simp)
            · rw [if_neg c9] at H
              exact absurd H (by simp)
          · rw [if_neg c8] at H
            exact absurd H (by simp)
        · rw [if_neg c7] at H
          exact absurd H (by simp)
  · rw [if_neg c4] at H
    have c4b0 : (t285 == 0) = false := beq_eq_false_iff_ne.mpr c4
    have c4b1 : (t285 != 0) = true := bne_iff_ne.mpr c4
    simp only [Option.some.injEq, Prod.mk.injEq] at H
    obtain ⟨rfl, rfl, rfl⟩ := H
    go_enter Try.func39, Try.ntmps39
    go_wp2_with (first | ((with_reducible refine gate_callee (f := 38) rfl ?_); refine goesL_ (some 13) rfl rfl Try.func38 (by kernel_rfl) rfl #[.slice A0 l0.length c0, .int .i64 a1, .int .i64 4] rfl argA ?_; (with_reducible refine (plinthref01_Get.calls k _ _ l0 a1 4 t283 t284 t285 _ ?side1 ?side2 A3.out).mono ?_); (case side1 => exact upC (HR0.out)); (case side2 => exact HC0.out); rintro e w' ⟨rfl, ⟨nd, rfl⟩⟩; refine ⟨_, rfl, ?_⟩))
    go_ret3
    exact ⟨_, by first | rfl | (simp [errW_none, errW_some] <;> rfl) | (simp [*, errW_none, errW_some] <;> rfl), by first | exact Kd.R_nil _ _ _ _ _ | exact Kd.N_nil _ _ _ _ _ | exact Kd.V_nil _ _ _ _ _ | exact Kd.Q_nil _ _ _ _ _ | exact Kd.S_nil _ _ _ _ _, upB0 HB.out⟩

/-! ### plinthref04_broken: function 40 -/
def plinthref04_broken.f (a0 : Int) : Option (Int) := if a0 = 10 then (some a0) else (some 42)
set_option maxHeartbeats 8000000 in
set_option maxRecDepth 100000 in
theorem plinthref04_broken.calls (a0 : Int) (r : Int) (w : World) (h : plinthref04_broken.f a0 = some r) :
    Calls Try.prog 40 #[.int .i64 a0] w fun e w' => e = .returned (.int .i64 r) ∧ Drawn0 w w' := by
  have H : (if a0 = 10 then (some a0) else (some 42)) = some r := h
  clear h
  by_cases c2 : a0 = 10
  · rw [if_pos c2] at H
    have c2b0 : (a0 == 10) = true := beq_iff_eq.mpr c2
    have c2b1 : (a0 != 10) = false := bne_eq_false_iff_eq.mpr c2
    clear c2
    obtain rfl := Option.some.inj H
    go_enter Try.func40, Try.ntmps40
    go_wp2
    go_ret
    exact ⟨by first | rfl | (simp; done) | (simp [*]; done), by repeat (first | exact Drawn0.refl _ | apply Drawn0.step)⟩
  · rw [if_neg c2] at H
    have c2b0 : (a0 == 10) = false := beq_eq_false_iff_ne.mpr c2
    have c2b1 : (a0 != 10) = true := bne_iff_ne.mpr c2
    obtain rfl := Option.some.inj H
    go_enter Try.func40, Try.ntmps40
    go_wp2
    go_ret
    exact ⟨by first | rfl | (simp; done) | (simp [*]; done), by repeat (first | exact Drawn0.refl _ | apply Drawn0.step)⟩

end Go.Proofs.Ytogjpilkgghidaa.F
