-- Written by ext (this session's own program).
import Derived.Test.YtcajcbeioilgmaaFx0
import Derived.Test.YtcajcbeioilgmaaFx15
import Derived.Test.YtcajcbeioilgmaaFx27
import Derived.Test.YtcajcbeioilgmaaFx29
import Derived.Test.YtcajcbeioilgmaaFx31
namespace Go.Proofs.Ytcajcbeioilgmaa.F
open Go.RowKit Go.Proofs.YtcajcbeioilgmaaW.PrintWords Go.Proofs.YtcajcbeioilgmaaW.PrintLast Go.Proofs.YtcajcbeioilgmaaW.PrintMore
attribute [local go_sem] max2_int min2_int max_two min_two max_three min_three max_four min_four   -- for this text's walks alone
set_option linter.unusedVariables false
set_option linter.unusedSimpArgs false

/-! ### plinthlaw03_FrameBegins: function 9 -/
mutual
def plinthlaw03_FrameBegins.l0 : Nat → List (S26) → Int → List Int → List Int → Int → Option (Bool)
  | 0, _, _, _, _, _ => none
  | k + 1, x0, x1, x5, x6, x7 => if x7 < (x0.length : Int) then (if 0 ≤ x7 then ((frame_Write.f k ((rd_T26 x0 x7).f0) ((rd_T26 x0 x7).f1) ((rd_T26 x0 x7).f2)).bind fun bt530 => (if bt530.2 = 0 then (if x5.length + bt530.1.length < 140737488355328 then ((some (x5 ++ bt530.1 : List Int)).bind fun y534 => (if x6.length < 17592186044416 then (plinthlaw03_FrameBegins.l0 k x0 x1 y534 (x6 ++ [(y534.length : Int)]) (wrap64 (x7 + 1))) else (none))) else (none)) else (some false))) else (none)) else (if (wrap64 ((x5.length : Int) + 1)) = 0 then (none) else (plinthlaw03_FrameBegins.l1 k x0 x5 x6 (Int.tmod (wrap64 (x1)) (wrap64 ((x5.length : Int) + 1))) 0))
def plinthlaw03_FrameBegins.l1 : Nat → List (S26) → List Int → List Int → Int → Int → Option (Bool)
  | 0, _, _, _, _, _ => none
  | k + 1, x0, x5, x6, x10, x11 => if x11 < (x0.length : Int) then (if 0 ≤ x11 then (if x11 < (x6.length : Int) then (if (rd x6 x11) ≤ x10 then (plinthlaw03_FrameBegins.l1 k x0 x5 x6 x10 (wrap64 (x11 + 1))) else (if 0 ≤ x10 then (if x10 ≤ (x5.length : Int) then ((frame_Scan.f k (x5.take (x10 : Int).toNat)).bind fun bt546 => (if x11 ≤ (x0.length : Int) then ((plinthref03_SameAll.f k bt546.1 (x0.take (x11 : Int).toNat)).bind fun t555 => (if t555 = true then (if x11 = 0 then (if bt546.2 = 0 then (some true) else (if x11 > 0 then (if 0 ≤ (wrap64 (x11 - 1)) then (if (wrap64 (x11 - 1)) < (x6.length : Int) then (some (bt546.2 == (rd x6 (wrap64 (x11 - 1))))) else (none)) else (none)) else (some false))) else (if x11 > 0 then (if 0 ≤ (wrap64 (x11 - 1)) then (if (wrap64 (x11 - 1)) < (x6.length : Int) then (some (bt546.2 == (rd x6 (wrap64 (x11 - 1))))) else (none)) else (none)) else (some false))) else (some false))) else (none))) else (none)) else (none))) else (none)) else (none)) else (if 0 ≤ x10 then (if x10 ≤ (x5.length : Int) then ((frame_Scan.f k (x5.take (x10 : Int).toNat)).bind fun bt563 => (if 0 ≤ x11 then (if x11 ≤ (x0.length : Int) then ((plinthref03_SameAll.f k bt563.1 (x0.take (x11 : Int).toNat)).bind fun t572 => (if t572 = true then (if x11 = 0 then (if bt563.2 = 0 then (some true) else (if x11 > 0 then (if 0 ≤ (wrap64 (x11 - 1)) then (if (wrap64 (x11 - 1)) < (x6.length : Int) then (some (bt563.2 == (rd x6 (wrap64 (x11 - 1))))) else (none)) else (none)) else (some false))) else (if x11 > 0 then (if 0 ≤ (wrap64 (x11 - 1)) then (if (wrap64 (x11 - 1)) < (x6.length : Int) then (some (bt563.2 == (rd x6 (wrap64 (x11 - 1))))) else (none)) else (none)) else (some false))) else (some false))) else (none)) else (none))) else (none)) else (none))
end
def plinthlaw03_FrameBegins.f (k : Nat) (l0 : List (S26)) (a1 : Int) : Option (Bool) := (plinthlaw03_awake.f k).bind fun t525 => (if t525 = true then ((plinthlaw03_few.f k l0).bind fun t526 => (plinthlaw03_FrameBegins.l0 k t526 a1 ([] : List Int) ([] : List Int) 0)) else (some false))
theorem plinthlaw03_FrameBegins.mono_l : ∀ k, (∀ y0 y1 y2 y3 y4, LeO (plinthlaw03_FrameBegins.l0 k y0 y1 y2 y3 y4) (plinthlaw03_FrameBegins.l0 (k + 1) y0 y1 y2 y3 y4)) ∧ (∀ y0 y1 y2 y3 y4, LeO (plinthlaw03_FrameBegins.l1 k y0 y1 y2 y3 y4) (plinthlaw03_FrameBegins.l1 (k + 1) y0 y1 y2 y3 y4))
  | 0 => ⟨fun _ _ _ _ _ r h => by simp [plinthlaw03_FrameBegins.l0] at h, fun _ _ _ _ _ r h => by simp [plinthlaw03_FrameBegins.l1] at h⟩
  | k + 1 => by
    obtain ⟨ih0, ih1⟩ := plinthlaw03_FrameBegins.mono_l k
    refine ⟨?_, ?_⟩
    · intro y0 y1 y2 y3 y4
      unfold plinthlaw03_FrameBegins.l0
      repeat' first
      | (with_reducible exact ih0 _ _ _ _ _)
      | (with_reducible exact ih1 _ _ _ _ _)
      | (with_reducible exact frame_Scan.mono _ _)
      | (with_reducible exact frame_Write.mono _ _ _ _)
      | (with_reducible exact plinthlaw03_awake.mono _)
      | (with_reducible exact plinthlaw03_few.mono _ _)
      | (with_reducible exact plinthref03_SameAll.mono _ _ _)
      | (with_reducible exact LeO.refl _)
      | (with_reducible exact LeO.none _)
      | (with_reducible refine LeO.ite ?_ ?_)
      | (with_reducible refine LeO.bind ?_ (fun _ => ?_))
      | exact ih0 _ _ _ _ _
      | exact ih1 _ _ _ _ _
      | exact frame_Scan.mono _ _
      | exact frame_Write.mono _ _ _ _
      | exact plinthlaw03_awake.mono _
      | exact plinthlaw03_few.mono _ _
      | exact plinthref03_SameAll.mono _ _ _
      | exact LeO.none _
      | refine LeO.ite ?_ ?_
      | refine LeO.bind ?_ (fun _ => ?_)
    · intro y0 y1 y2 y3 y4
      unfold plinthlaw03_FrameBegins.l1
      repeat' first
      | (with_reducible exact ih0 _ _ _ _ _)
      | (with_reducible exact ih1 _ _ _ _ _)
      | (with_reducible exact frame_Scan.mono _ _)
      | (with_reducible exact frame_Write.mono _ _ _ _)
      | (with_reducible exact plinthlaw03_awake.mono _)
      | (with_reducible exact plinthlaw03_few.mono _ _)
      | (with_reducible exact plinthref03_SameAll.mono _ _ _)
      | (with_reducible exact LeO.refl _)
      | (with_reducible exact LeO.none _)
      | (with_reducible refine LeO.ite ?_ ?_)
      | (with_reducible refine LeO.bind ?_ (fun _ => ?_))
      | exact ih0 _ _ _ _ _
      | exact ih1 _ _ _ _ _
      | exact frame_Scan.mono _ _
      | exact frame_Write.mono _ _ _ _
      | exact plinthlaw03_awake.mono _
      | exact plinthlaw03_few.mono _ _
      | exact plinthref03_SameAll.mono _ _ _
      | exact LeO.none _
      | refine LeO.ite ?_ ?_
      | refine LeO.bind ?_ (fun _ => ?_)
theorem plinthlaw03_FrameBegins.mono : ∀ a0 a1 k, LeO (plinthlaw03_FrameBegins.f k a0 a1) (plinthlaw03_FrameBegins.f (k + 1) a0 a1) := by
  intro a0 a1 k
  obtain ⟨ih0, ih1⟩ := plinthlaw03_FrameBegins.mono_l k
  unfold plinthlaw03_FrameBegins.f
  repeat' first
      | (with_reducible exact ih0 _ _ _ _ _)
      | (with_reducible exact ih1 _ _ _ _ _)
      | (with_reducible exact frame_Scan.mono _ _)
      | (with_reducible exact frame_Write.mono _ _ _ _)
      | (with_reducible exact plinthlaw03_awake.mono _)
      | (with_reducible exact plinthlaw03_few.mono _ _)
      | (with_reducible exact plinthref03_SameAll.mono _ _ _)
      | (with_reducible exact LeO.refl _)
      | (with_reducible exact LeO.none _)
      | (with_reducible refine LeO.ite ?_ ?_)
      | (with_reducible refine LeO.bind ?_ (fun _ => ?_))
      | exact ih0 _ _ _ _ _
      | exact ih1 _ _ _ _ _
      | exact frame_Scan.mono _ _
      | exact frame_Write.mono _ _ _ _
      | exact plinthlaw03_awake.mono _
      | exact plinthlaw03_few.mono _ _
      | exact plinthref03_SameAll.mono _ _ _
      | exact LeO.none _
      | refine LeO.ite ?_ ?_
      | refine LeO.bind ?_ (fun _ => ?_)
set_option maxHeartbeats 8000000 in
set_option maxRecDepth 100000 in
theorem plinthlaw03_FrameBegins.calls (k : Nat) (A0 : Option Addr) (c0 : Nat) (l0 : List (S26)) (a1 : Int) (r : Bool) (w : World) (hr0 : Kd.C k26 w A0 l0.length l0) (hc0 : l0.length ≤ c0) (h : plinthlaw03_FrameBegins.f k l0 a1 = some r) :
    Calls Try.prog 9 #[.slice A0 l0.length c0, .int .u16 a1] w fun e w' => e = .returned (.bool r) ∧ Below w.heap.size w w' := by
  have hu26 := Try.underlying26
  have HR0 := Aside0.mk hr0
  have HC0 := Aside0.mk hc0
  clear hr0 hc0
  have HB := Aside0.mk (Below.refl w.heap.size w)
  have H : ((plinthlaw03_awake.f k).bind fun t525 => (if t525 = true then ((plinthlaw03_few.f k l0).bind fun t526 => (plinthlaw03_FrameBegins.l0 k t526 a1 ([] : List Int) ([] : List Int) 0)) else (some false))) = some r := h
  clear h
  replace H := Option.bind_eq_some_iff.mp H
  obtain ⟨t525, A30, H⟩ := H
  replace H : (if t525 = true then ((plinthlaw03_few.f k l0).bind fun t526 => (plinthlaw03_FrameBegins.l0 k t526 a1 ([] : List Int) ([] : List Int) 0)) else (some false)) = some r := H
  have A3 := Aside0.mk A30
  clear A30
  by_cases c4 : t525 = true
  · subst c4
    have H1 : ((plinthlaw03_few.f k l0).bind fun t526 => (plinthlaw03_FrameBegins.l0 k t526 a1 ([] : List Int) ([] : List Int) 0)) = some r := by rw [if_pos rfl] at H; exact H
    clear H
    have H := H1
    clear H1
    replace H := Option.bind_eq_some_iff.mp H
    obtain ⟨t526, A50, H⟩ := H
    replace H : (plinthlaw03_FrameBegins.l0 k t526 a1 ([] : List Int) ([] : List Int) 0) = some r := H
    have A5 := Aside0.mk A50
    clear A50
    have H' := Aside0.mk H
    clear H
    go_enter Try.func9, Try.ntmps9
    go_wp2_with (first | ((with_reducible refine gate_callee (f := 14) rfl ?_); refine goesL_ (some 14) rfl rfl Try.func14 (by kernel_rfl) rfl #[] rfl argA ?_; (with_reducible refine (plinthlaw03_awake.calls k  true _ A3.out).mono ?_); rintro e w6 ⟨rfl, hb⟩; refine ⟨_, rfl, ?_⟩; replace HB := Aside0.mk (below_step (upB0 HB.out) hb); (try clear hb); (try clear hb2); (try clear hk); (try clear hi)) | ((with_reducible refine gate_callee (f := 23) rfl ?_); refine goesL_ (some 17) rfl rfl Try.func23 (by kernel_rfl) rfl #[.slice A0 l0.length c0] rfl argA ?_; (with_reducible refine (plinthlaw03_few.calls k (fun k_ => k_ < w.heap.size) _ _ l0 t526 _ ?side1 A5.out).mono ?_); (case side1 => exact Kd.V_mk HC0.out (Kd.F_below (Kd.C_F k26_heap HR0.out) (upB0 HB.out))); rintro e w7 ⟨v527, rfl, ho0, hb⟩; refine ⟨_, rfl, ?_⟩; have HO528 := Aside0.mk (Kd.N_lower (Kd.N_mono (ok' := fun k_ => True) ho0 (fun k_ hk_ => trivial)) (below_size (upB0 HB.out))); replace HB := Aside0.mk (below_step (upB0 HB.out) hb); (try clear hb); (try clear hb2); (try clear hk); (try clear hi); (try clear ho0)))
    go_loopg [5, 6, 7] k (fun kq v5 v6 v7 w' => ∃ (x5_1 : List Int) (x6_1 : List Int) (x7_1 : Int), v7 = .int .i64 x7_1 ∧ Aside0 (plinthlaw03_FrameBegins.l0 kq t526 a1 x5_1 x6_1 x7_1 = some r) ∧ Aside0 (kq ≤ k) ∧ Aside0 (Kd.N k26 26 w' w.heap.size (fun k_ => some k_ ≠ (v5 : Value).ownBlock ∧ some k_ ≠ (v6 : Value).ownBlock) v527 t526) ∧ Aside0 (Kd.R (Kd.int .u8) 5 w' w.heap.size (fun _ => True) v5 x5_1) ∧ Aside0 (Kd.R (Kd.int .i64) 3 w' w.heap.size (fun _ => True) v6 x6_1) ∧ Aside0 (Below w.heap.size w w'))
    case atStart => exact ⟨(([] : List Int)), (([] : List Int)), (0), (by first | rfl | (simp; done) | (simp [*]; done)), H', ⟨Nat.le_refl _⟩, ⟨by (with_reducible repeat (first | apply Kd.N_alloc | apply Kd.N_drewN | apply Kd.N_drew)); exact Kd.N_mono HO528.out (fun _ hk => ⟨(by simp [Value.ownBlock]), (by simp [Value.ownBlock])⟩)⟩, ⟨by first | exact Kd.R_nil _ _ _ _ _ | exact Kd.N_nil _ _ _ _ _ | exact Kd.V_nil _ _ _ _ _ | exact Kd.Q_nil _ _ _ _ _ | exact Kd.S_nil _ _ _ _ _⟩, ⟨by first | exact Kd.R_nil _ _ _ _ _ | exact Kd.N_nil _ _ _ _ _ | exact Kd.V_nil _ _ _ _ _ | exact Kd.Q_nil _ _ _ _ _ | exact Kd.S_nil _ _ _ _ _⟩, ⟨upB0 HB.out⟩⟩
    case round =>
      clear H'
      try clear c1
      try clear c2
      try clear p2
      try clear c4
      obtain ⟨x5_1, x6_1, x7_1, rfl, HA, HK1, HO_0, HO_5, HO_6, HB⟩ := hrel
      cases gk with
      | zero => exact absurd HA.out (by simp [plinthlaw03_FrameBegins.l0])
      | succ k1 =>
        have H := HA.out
        clear HA
        simp only [plinthlaw03_FrameBegins.l0] at H
        by_cases c8 : x7_1 < (t526.length : Int)
        · rw [if_pos c8] at H
          have c8b0 : decide (x7_1 < (t526.length : Int)) = true := decide_eq_true c8
          clear c8
          by_cases c9 : 0 ≤ x7_1
          · rw [if_pos c9] at H
            have c9b0 : decide (0 ≤ x7_1) = true := decide_eq_true c9
            clear c9
            replace H := Option.bind_eq_some_iff.mp H
            obtain ⟨⟨t530, t533⟩, A100, H⟩ := H
            replace H : (if t533 = 0 then (if x5_1.length + t530.length < 140737488355328 then ((some (x5_1 ++ t530 : List Int)).bind fun y534 => (if x6_1.length < 17592186044416 then (plinthlaw03_FrameBegins.l0 k1 t526 a1 y534 (x6_1 ++ [(y534.length : Int)]) (wrap64 (x7_1 + 1))) else (none))) else (none)) else (some false)) = some r := H
            have A10 := Aside0.mk A100
            clear A100
            by_cases c11 : t533 = 0
            · rw [if_pos c11] at H
              have c11b0 : (t533 == 0) = true := beq_iff_eq.mpr c11
              have c11b1 : (t533 != 0) = false := bne_eq_false_iff_eq.mpr c11
              clear c11
              by_cases c12 : x5_1.length + t530.length < 140737488355328
              · rw [if_pos c12] at H
                have LMc12 := Aside0.mk c12
                clear c12
                obtain ⟨y534, hy534⟩ : ∃ y_ : List Int, y_ = (x5_1 ++ t530) := ⟨_, rfl⟩
                replace H : (if x6_1.length < 17592186044416 then (plinthlaw03_FrameBegins.l0 k1 t526 a1 y534 (x6_1 ++ [(y534.length : Int)]) (wrap64 (x7_1 + 1))) else (none)) = some r := by first | (rw [hy534]; with_reducible exact H) | (have H2_ := (Option.bind_some _ _).symm.trans H; rw [hy534]; with_reducible exact H2_) | (have H2_ := (Option.bind_some _ _).symm.trans H; with_reducible exact H2_) | with_reducible exact H | (rw [hy534]; exact H) | exact H
                have Ny534 := Aside0.mk hy534
                clear hy534
                by_cases c13 : x6_1.length < 17592186044416
                · rw [if_pos c13] at H
                  have LMc13 := Aside0.mk c13
                  clear c13
                  obtain ⟨y537, hy537⟩ : ∃ y_ : List Int, y_ = (x6_1 ++ [(y534.length : Int)]) := ⟨_, rfl⟩
                  replace H : (plinthlaw03_FrameBegins.l0 k1 t526 a1 y534 y537 (wrap64 (x7_1 + 1))) = some r := by first | (rw [hy537]; with_reducible exact H) | (have H2_ := (Option.bind_some _ _).symm.trans H; rw [hy537]; with_reducible exact H2_) | (have H2_ := (Option.bind_some _ _).symm.trans H; with_reducible exact H2_) | with_reducible exact H | (rw [hy537]; exact H) | exact H
                  have Ny537 := Aside0.mk hy537
                  clear hy537
                  have H' := Aside0.mk H
                  clear H
                  obtain ⟨Ao14, co14, eo14⟩ := Kd.N_slice HO_0.out
                  subst eo14
                  have p529 : 0 ≤ (x7_1 : Int) := of_decide_eq_true (by first | (with_reducible assumption) | assumption)
                  have q529 : x7_1 < (t526.length : Int) := of_decide_eq_true (by first | (with_reducible assumption) | assumption)
                  obtain ⟨ad529, A529_2, c529_2, e529, hx529_0, hx529_1, hx529_2, hl529_2, hi529_2⟩ := at_T26 (Kd.N_reads' HO_0.out).2.2 x7_1 p529 q529
                  cases e529
                  obtain ⟨ce529, hce529, hMe529, hcc529⟩ := Kd.N_get HO_0.out z26 x7_1 p529 (by first | exact q529 | exact of_decide_eq_true (by first | (with_reducible assumption) | assumption) | (have e_ := (Kd.N_reads' HO_0.out).1; omega))
                  obtain ⟨ua529_2, uc529_2, rfl, ul529_2, ge529_2⟩ := k26_openF hMe529
                  have hv529_2 := hcc529 2 _ rfl
                  rw [add_field _ _ 2 (by omega)] at hv529_2
                  replace hv529_2 := Option.some.inj (hv529_2.symm.trans hx529_2)
                  injection hv529_2 with hva_ hvn_ hvc_
                  rw [hva_] at ge529_2
                  rw [hvc_] at ul529_2
                  have HL529_2 := Aside0.mk (show Kd.V (Kd.int .u8) 5 _ w.heap.size _ _ ((rd_T26 t526 x7_1).f2) from Kd.V_mk ul529_2 ge529_2)
                  clear hva_ hvn_ hvc_ ge529_2 ul529_2
                  clear hcc529 hce529
                  have HR529_2 := Aside0.mk hi529_2
                  have HC529_2 := Aside0.mk hl529_2
                  clear hi529_2 hl529_2
                  replace p529 := eq_true p529
                  replace q529 := eq_true q529
                  go_wp2_with (first | ((with_reducible refine gate_callee (f := 15) rfl ?_); refine goesL_ (some 29) rfl rfl Try.func15 (by kernel_rfl) rfl #[.agg #[.int .u8 ((rd_T26 t526 x7_1).f0), .int .u64 ((rd_T26 t526 x7_1).f1), .slice A529_2 ((rd_T26 t526 x7_1).f2).length c529_2]] rfl argA ?_; (with_reducible refine (frame_Write.calls k1 ((rd_T26 t526 x7_1).f0) ((rd_T26 t526 x7_1).f1) _ _ ((rd_T26 t526 x7_1).f2) t530 t533 _ ?side1 ?side2 A10.out).mono ?_); (case side1 => repeat (first | exact (by repeat (first | (with_reducible exact HR529_2.out) | (with_reducible refine Kd.C_alloc ?_ _) | (with_reducible refine Kd.C_drewN ?_ _) | (with_reducible refine Kd.C_drew ?_) | exact HR529_2.out)) | (with_reducible refine Kd.C_alloc ?_ _) | (with_reducible refine Kd.C_drewN ?_ _) | (with_reducible refine Kd.C_drew ?_))); (case side2 => exact HC529_2.out); rintro e w15 ⟨v531, rfl, ho0, hb⟩; refine ⟨_, rfl, ?_⟩; replace HO_0 := Aside0.mk (Kd.N_elder' (by (with_reducible repeat (first | apply Kd.N_alloc | apply Kd.N_drewN | apply Kd.N_drew)); exact HO_0.out) (Kd.R_base ho0) hb); replace HO_6 := Aside0.mk (Kd.R_below (upR HO_6.out) hb); replace HL529_2 := Aside0.mk (Kd.V_elder' (upV HL529_2.out) (Kd.R_base ho0) hb); have HO532 := Aside0.mk (Kd.R_lower (Kd.R_new' ho0 (Kd.R_lt (upR HO_5.out))) (below_size (upB0 HB.out))); replace HO_5 := Aside0.mk (Kd.R_elder' (upR HO_5.out) (Kd.R_base ho0) hb); replace HR529_2 := Aside0.mk (Kd.C_below (by repeat (first | (with_reducible exact HR529_2.out) | (with_reducible refine Kd.C_alloc ?_ _) | (with_reducible refine Kd.C_drewN ?_ _) | (with_reducible refine Kd.C_drew ?_) | exact HR529_2.out)) hb); replace HB := Aside0.mk (below_step (upB0 HB.out) hb); (try clear hb); (try clear hb2); (try clear hk); (try clear hi); (try clear ho0); obtain ⟨Ao17, co17, eo17⟩ := Kd.R_slice HO532.out; subst eo17) | ((with_reducible refine gate_builtin (b := .append) (xs := #[.tmp 34, .tmp 35]) rfl ?_); at_builtin; refine Kd.R_append_rows (Kd.int .u8) (w0 := w) w.heap.size rfl (.tmp 34) (.tmp 35) 22 5 (.int .u8 0) 1 rfl Try.underlying22 info5 rfl (by decide) (by omega) u5 x5_1 t530 _ _ _ (fun k_ => some k_ ≠ (.slice Ao17 t530.length co17 : Value).ownBlock) (fun _ => False) rfl rfl ?aO ?aR (fun _ _ h => h) (fun _ h => h.elim) ?aF ?aB ?aS ?aL ?_; (case aR => exact upC ((Kd.R_reads' HO532.out).2.2)); (case aB => exact (upB0 HB.out)); (case aF => exact (fun k_ hk => Kd.fresh' (Kd.R_lt (upR HO532.out)) k_ hk)); (case aO => exact (by refine upR ?_; exact Kd.R_mono HO_5.out (fun _ hk => hk.2))); (case aS => exact (below_size (upB0 HB.out))); (case aL => have := LMc12.out; omega); intro v535 w16 ho hb hg hat; rw [← Ny534.out] at ho; have n0_ := Aside0.mk (Kd.N_afterv (ok := (fun k_ => some k_ ≠ (u6 : Value).ownBlock ∧ some k_ ≠ (.slice Ao17 t530.length co17 : Value).ownBlock)) (by (with_reducible repeat (first | apply Kd.N_alloc | apply Kd.N_drewN | apply Kd.N_drew)); exact Kd.N_mono HO_0.out (fun _ hk => ⟨⟨hk.1.2, hk.2⟩, hk.1.1⟩)) hg hat); have n1_ := Aside0.mk (Kd.R_over' (upR HO_6.out) (Kd.R_typed (upR HO_5.out)) (by decide) hg); have n2_ := Aside0.mk (Kd.V_afterv (ok := (fun k_ => some k_ ≠ (.slice (some ad529) t526.length co14 : Value).ownBlock ∧ some k_ ≠ (u6 : Value).ownBlock ∧ some k_ ≠ (.slice Ao17 t530.length co17 : Value).ownBlock)) (by refine upV ?_; exact Kd.V_mono HL529_2.out (fun _ hk => ⟨⟨hk.1.2, ⟨hk.1.1.2, hk.2⟩⟩, hk.1.1.1⟩)) hg hat); have n3_ := Aside0.mk (Kd.R_after (ok := (fun _ => True)) (upR HO532.out) hg hat); have n4_ := Aside0.mk (hb); have n5_ := Aside0.mk (ho); clear HO_0; clear HO_6; clear HL529_2; clear HO532; clear HB; clear HO_5; have HO_0 := n0_; have HO_6 := n1_; have HL529_2 := n2_; have HO532 := n3_; have HB := n4_; have HO536 := n5_; clear n0_ n1_ n2_ n3_ n4_ n5_; clear ho hb hg hat; obtain ⟨Ao18, co18, eo18⟩ := Kd.R_slice HO536.out; subst eo18) | ((with_reducible refine gate_builtin (b := .append) (xs := #[.tmp 37, .tmp 40]) rfl ?_); at_builtin; refine Kd.R_append (Kd.int .i64) (w0 := w) w.heap.size rfl (.tmp 37) (.tmp 40) 45 3 (.int .i64 0) 8 rfl Try.underlying45 info3 rfl (by decide) (by omega) u6 x6_1 (y534.length : Int) [.int .i64 (y534.length : Int)] (fun _ => True) (fun _ => False) rfl rfl ?aP (fun _ hk => hk.elim) ?aF ?aO ?aB ?aS ?aL ?_; (case aP => exact rfl); (case aB => exact (upB0 HB.out)); (case aF => exact (fun _ _ => trivial)); (case aO => exact (upR HO_6.out)); (case aS => exact (below_size (upB0 HB.out))); (case aL => have := LMc13.out; omega); intro v538 w19 ho hb hg hat; rw [← Ny537.out] at ho; have n0_ := Aside0.mk (Kd.N_afterv (ok := (fun k_ => some k_ ≠ (.slice Ao17 t530.length co17 : Value).ownBlock ∧ some k_ ≠ (.slice Ao18 y534.length co18 : Value).ownBlock)) (by (with_reducible repeat (first | apply Kd.N_alloc | apply Kd.N_drewN | apply Kd.N_drew)); exact Kd.N_mono HO_0.out (fun _ hk => ⟨⟨hk.1.2, hk.2⟩, hk.1.1⟩)) hg hat); have n1_ := Aside0.mk (Kd.V_afterv (ok := (fun k_ => some k_ ≠ (.slice (some ad529) t526.length co14 : Value).ownBlock ∧ some k_ ≠ (.slice Ao17 t530.length co17 : Value).ownBlock ∧ some k_ ≠ (.slice Ao18 y534.length co18 : Value).ownBlock)) (by refine upV ?_; exact Kd.V_mono HL529_2.out (fun _ hk => ⟨⟨hk.1.1, ⟨hk.1.2.2, hk.2⟩⟩, hk.1.2.1⟩)) hg hat); have n2_ := Aside0.mk (Kd.R_over' (upR HO532.out) (Kd.R_typed (upR HO_6.out)) (by decide) hg); have n3_ := Aside0.mk (Kd.R_over' (upR HO536.out) (Kd.R_typed (upR HO_6.out)) (by decide) hg); have n4_ := Aside0.mk (hb); have n5_ := Aside0.mk (ho); clear HO_0; clear HL529_2; clear HO532; clear HO536; clear HB; clear HO_6; have HO_0 := n0_; have HL529_2 := n1_; have HO532 := n2_; have HO536 := n3_; have HB := n4_; have HO539 := n5_; clear n0_ n1_ n2_ n3_ n4_ n5_; clear ho hb hg hat))
                  go_roundg k1
                  case measure => have := HK1.out; omega
                  case rel => exact ⟨(y534), (y537), (wrap64 (x7_1 + 1)), (by first | rfl | (simp; done) | (simp [*]; done)), H', ⟨by have := HK1.out; omega⟩, ⟨by (with_reducible repeat (first | apply Kd.N_alloc | apply Kd.N_drewN | apply Kd.N_drew)); exact Kd.N_mono HO_0.out (fun _ hk => ⟨hk.1.2, hk.2⟩)⟩, ⟨by refine upR ?_; exact Kd.R_mono HO536.out (fun _ hk => trivial)⟩, ⟨by refine upR ?_; exact HO539.out⟩, ⟨upB0 HB.out⟩⟩
                · rw [if_neg c13] at H
                  exact absurd H (by simp)
              · rw [if_neg c12] at H
                exact absurd H (by simp)
            · rw [if_neg c11] at H
              have c11b0 : (t533 == 0) = false := beq_eq_false_iff_ne.mpr c11
              have c11b1 : (t533 != 0) = true := bne_iff_ne.mpr c11
              obtain rfl := Option.some.inj H
              obtain ⟨Ao20, co20, eo20⟩ := Kd.N_slice HO_0.out
              subst eo20
              have p529 : 0 ≤ (x7_1 : Int) := of_decide_eq_true (by first | (with_reducible assumption) | assumption)
              have q529 : x7_1 < (t526.length : Int) := of_decide_eq_true (by first | (with_reducible assumption) | assumption)
              obtain ⟨ad529, A529_2, c529_2, e529, hx529_0, hx529_1, hx529_2, hl529_2, hi529_2⟩ := at_T26 (Kd.N_reads' HO_0.out).2.2 x7_1 p529 q529
              cases e529
              obtain ⟨ce529, hce529, hMe529, hcc529⟩ := Kd.N_get HO_0.out z26 x7_1 p529 (by first | exact q529 | exact of_decide_eq_true (by first | (with_reducible assumption) | assumption) | (have e_ := (Kd.N_reads' HO_0.out).1; omega))
              obtain ⟨ua529_2, uc529_2, rfl, ul529_2, ge529_2⟩ := k26_openF hMe529
              have hv529_2 := hcc529 2 _ rfl
              rw [add_field _ _ 2 (by omega)] at hv529_2
              replace hv529_2 := Option.some.inj (hv529_2.symm.trans hx529_2)
              injection hv529_2 with hva_ hvn_ hvc_
              rw [hva_] at ge529_2
              rw [hvc_] at ul529_2
              have HL529_2 := Aside0.mk (show Kd.V (Kd.int .u8) 5 _ w.heap.size _ _ ((rd_T26 t526 x7_1).f2) from Kd.V_mk ul529_2 ge529_2)
              clear hva_ hvn_ hvc_ ge529_2 ul529_2
              clear hcc529 hce529
              have HR529_2 := Aside0.mk hi529_2
              have HC529_2 := Aside0.mk hl529_2
              clear hi529_2 hl529_2
              replace p529 := eq_true p529
              replace q529 := eq_true q529
              go_wp2_with (first | ((with_reducible refine gate_callee (f := 15) rfl ?_); refine goesL_ (some 29) rfl rfl Try.func15 (by kernel_rfl) rfl #[.agg #[.int .u8 ((rd_T26 t526 x7_1).f0), .int .u64 ((rd_T26 t526 x7_1).f1), .slice A529_2 ((rd_T26 t526 x7_1).f2).length c529_2]] rfl argA ?_; (with_reducible refine (frame_Write.calls k1 ((rd_T26 t526 x7_1).f0) ((rd_T26 t526 x7_1).f1) _ _ ((rd_T26 t526 x7_1).f2) t530 t533 _ ?side1 ?side2 A10.out).mono ?_); (case side1 => repeat (first | exact (by repeat (first | (with_reducible exact HR529_2.out) | (with_reducible refine Kd.C_alloc ?_ _) | (with_reducible refine Kd.C_drewN ?_ _) | (with_reducible refine Kd.C_drew ?_) | exact HR529_2.out)) | (with_reducible refine Kd.C_alloc ?_ _) | (with_reducible refine Kd.C_drewN ?_ _) | (with_reducible refine Kd.C_drew ?_))); (case side2 => exact HC529_2.out); rintro e w21 ⟨v531, rfl, ho0, hb⟩; refine ⟨_, rfl, ?_⟩; replace HO_0 := Aside0.mk (Kd.N_elder' (by (with_reducible repeat (first | apply Kd.N_alloc | apply Kd.N_drewN | apply Kd.N_drew)); exact HO_0.out) (Kd.R_base ho0) hb); replace HO_6 := Aside0.mk (Kd.R_below (upR HO_6.out) hb); replace HL529_2 := Aside0.mk (Kd.V_elder' (upV HL529_2.out) (Kd.R_base ho0) hb); have HO532 := Aside0.mk (Kd.R_lower (Kd.R_new' ho0 (Kd.R_lt (upR HO_5.out))) (below_size (upB0 HB.out))); replace HO_5 := Aside0.mk (Kd.R_elder' (upR HO_5.out) (Kd.R_base ho0) hb); replace HR529_2 := Aside0.mk (Kd.C_below (by repeat (first | (with_reducible exact HR529_2.out) | (with_reducible refine Kd.C_alloc ?_ _) | (with_reducible refine Kd.C_drewN ?_ _) | (with_reducible refine Kd.C_drew ?_) | exact HR529_2.out)) hb); replace HB := Aside0.mk (below_step (upB0 HB.out) hb); (try clear hb); (try clear hb2); (try clear hk); (try clear hi); (try clear ho0)))
              go_ret
              exact ⟨by first | rfl | (simp [errW_none, errW_some] <;> rfl) | (simp [*, errW_none, errW_some] <;> rfl), upB0 HB.out⟩
          · rw [if_neg c9] at H
            exact absurd H (by simp)
        · rw [if_neg c8] at H
          have c8b0 : decide (x7_1 < (t526.length : Int)) = false := decide_eq_false c8
          clear c8
          by_cases c22 : (wrap64 ((x5_1.length : Int) + 1)) = 0
          · rw [if_pos c22] at H
            exact absurd H (by simp)
          · rw [if_neg c22] at H
            have c22b0 : ((wrap64 ((x5_1.length : Int) + 1)) == 0) = false := beq_eq_false_iff_ne.mpr c22
            have c22b1 : ((wrap64 ((x5_1.length : Int) + 1)) != 0) = true := bne_iff_ne.mpr c22
            have H' := Aside0.mk H
            clear H
            obtain ⟨Ao23, co23, eo23⟩ := Kd.N_slice HO_0.out
            subst eo23
            obtain ⟨Ao24, co24, eo24⟩ := Kd.R_slice HO_5.out
            subst eo24
            go_wp2
            go_loopg [11] k1 (fun kq v11 w' => ∃ (x11_2 : Int), v11 = .int .i64 x11_2 ∧ Aside0 (plinthlaw03_FrameBegins.l1 kq t526 x5_1 x6_1 (Int.tmod (wrap64 (a1)) (wrap64 ((x5_1.length : Int) + 1))) x11_2 = some r) ∧ Aside0 (kq ≤ k1) ∧ Aside0 (Kd.N k26 26 w' w.heap.size (fun k_ => some k_ ≠ ((.slice Ao24 x5_1.length co24) : Value).ownBlock ∧ some k_ ≠ (u6 : Value).ownBlock) (.slice Ao23 t526.length co23) t526) ∧ Aside0 (Kd.R (Kd.int .u8) 5 w' w.heap.size (fun _ => True) (.slice Ao24 x5_1.length co24) x5_1) ∧ Aside0 (Kd.R (Kd.int .i64) 3 w' w.heap.size (fun _ => True) u6 x6_1) ∧ Aside0 (Below w.heap.size w w'))
            case atStart => exact ⟨(0), (by first | rfl | (simp; done) | (simp [*]; done)), H', ⟨Nat.le_refl _⟩, ⟨by (with_reducible repeat (first | apply Kd.N_alloc | apply Kd.N_drewN | apply Kd.N_drew)); exact HO_0.out⟩, ⟨by refine upR ?_; exact HO_5.out⟩, ⟨by refine upR ?_; exact HO_6.out⟩, ⟨upB0 HB.out⟩⟩
            case round =>
              clear H'
              try clear c1
              try clear c2
              try clear p2
              try clear c4
              try clear c5
              try clear p5
              try clear q5
              try clear hx5
              try clear p6
              try clear c8
              try clear c8b0
              try clear c9
              try clear c9b0
              try clear c11
              try clear c11b0
              try clear c11b1
              try clear c12
              try clear c13
              try clear c14
              try clear c15
              try clear c22
              try clear c22b0
              try clear c22b1
              try clear c23
              try clear hx529_0
              try clear hx529_1
              try clear hx529_2
              try clear p2
              try clear p529
              try clear q529
              obtain ⟨x11_2, rfl, HA, HK2, HO_0, HO_5, HO_6, HB⟩ := hrel
              cases gk with
              | zero => exact absurd HA.out (by simp [plinthlaw03_FrameBegins.l1])
              | succ k2 =>
                have H := HA.out
                clear HA
                simp only [plinthlaw03_FrameBegins.l1] at H
                by_cases c25 : x11_2 < (t526.length : Int)
                · rw [if_pos c25] at H
                  have c25b0 : decide (x11_2 < (t526.length : Int)) = true := decide_eq_true c25
                  clear c25
                  by_cases c26 : 0 ≤ x11_2
                  · rw [if_pos c26] at H
                    have c26b0 : decide (0 ≤ x11_2) = true := decide_eq_true c26
                    clear c26
                    by_cases c27 : x11_2 < (x6_1.length : Int)
                    · rw [if_pos c27] at H
                      have c27b0 : decide (x11_2 < (x6_1.length : Int)) = true := decide_eq_true c27
                      clear c27
                      by_cases c28 : (rd x6_1 x11_2) ≤ (Int.tmod (wrap64 (a1)) (wrap64 ((x5_1.length : Int) + 1)))
                      · rw [if_pos c28] at H
                        have c28b0 : decide ((rd x6_1 x11_2) ≤ (Int.tmod (wrap64 (a1)) (wrap64 ((x5_1.length : Int) + 1)))) = true := decide_eq_true c28
                        clear c28
                        have H' := Aside0.mk H
                        clear H
                        obtain ⟨Ao29, co29, eo29⟩ := Kd.R_slice HO_6.out
                        subst eo29
                        have p540 : 0 ≤ (x11_2 : Int) := of_decide_eq_true (by first | (with_reducible assumption) | assumption)
                        have q540 : x11_2 < (x6_1.length : Int) := of_decide_eq_true (by first | (with_reducible assumption) | assumption)
                        obtain ⟨ad540, e540, hx540_0⟩ := Kd.at_int (Kd.R_reads' HO_6.out).2.2 x11_2 p540 q540
                        cases e540
                        replace p540 := eq_true p540
                        replace q540 := eq_true q540
                        go_wp2
                        go_roundg k2
                        case measure => have := HK1.out; have := HK2.out; omega
                        case rel => exact ⟨(wrap64 (x11_2 + 1)), (by first | rfl | (simp; done) | (simp [*]; done)), H', ⟨by have := HK1.out; have := HK2.out; omega⟩, ⟨by (with_reducible repeat (first | apply Kd.N_alloc | apply Kd.N_drewN | apply Kd.N_drew)); exact HO_0.out⟩, ⟨by refine upR ?_; exact HO_5.out⟩, ⟨by refine upR ?_; exact HO_6.out⟩, ⟨upB0 HB.out⟩⟩
                      · rw [if_neg c28] at H
                        have c28b0 : decide ((rd x6_1 x11_2) ≤ (Int.tmod (wrap64 (a1)) (wrap64 ((x5_1.length : Int) + 1)))) = false := decide_eq_false c28
                        clear c28
                        obtain ⟨ji30, hji30⟩ : ∃ j_ : Int, (Int.tmod (wrap64 (a1)) (wrap64 ((x5_1.length : Int) + 1))) = j_ := ⟨_, rfl⟩
                        replace H : (if 0 ≤ (ji30) then (if (ji30) ≤ (x5_1.length : Int) then ((frame_Scan.f k2 (x5_1.take ((ji30) : Int).toNat)).bind fun bt546 => (if x11_2 ≤ (t526.length : Int) then ((plinthref03_SameAll.f k2 bt546.1 (t526.take (x11_2 : Int).toNat)).bind fun t555 => (if t555 = true then (if x11_2 = 0 then (if bt546.2 = 0 then (some true) else (if x11_2 > 0 then (if 0 ≤ (wrap64 (x11_2 - 1)) then (if (wrap64 (x11_2 - 1)) < (x6_1.length : Int) then (some (bt546.2 == (rd x6_1 (wrap64 (x11_2 - 1))))) else (none)) else (none)) else (some false))) else (if x11_2 > 0 then (if 0 ≤ (wrap64 (x11_2 - 1)) then (if (wrap64 (x11_2 - 1)) < (x6_1.length : Int) then (some (bt546.2 == (rd x6_1 (wrap64 (x11_2 - 1))))) else (none)) else (none)) else (some false))) else (some false))) else (none))) else (none)) else (none)) = some r := by first | (rw [hji30] at H; exact H) | (simp only [hji30] at H ⊢; exact H)
                        (try rw [hji30] at c28b0)
                        by_cases c31 : 0 ≤ (ji30)
                        · rw [if_pos c31] at H
                          have c31b0 := eq_true c31
                          have c31b1 : decide (0 ≤ (ji30)) = true := decide_eq_true c31
                          clear c31
                          by_cases c32 : (ji30) ≤ (x5_1.length : Int)
                          · rw [if_pos c32] at H
                            have c32b0 := eq_true c32
                            have c32b1 : decide ((ji30) ≤ (x5_1.length : Int)) = true := decide_eq_true c32
                            clear c32
                            obtain ⟨y541, hy541⟩ : ∃ y_ : List Int, y_ = (x5_1.take ((ji30) : Int).toNat) := ⟨_, rfl⟩
                            replace H : ((frame_Scan.f k2 y541).bind fun bt546 => (if x11_2 ≤ (t526.length : Int) then ((plinthref03_SameAll.f k2 bt546.1 (t526.take (x11_2 : Int).toNat)).bind fun t555 => (if t555 = true then (if x11_2 = 0 then (if bt546.2 = 0 then (some true) else (if x11_2 > 0 then (if 0 ≤ (wrap64 (x11_2 - 1)) then (if (wrap64 (x11_2 - 1)) < (x6_1.length : Int) then (some (bt546.2 == (rd x6_1 (wrap64 (x11_2 - 1))))) else (none)) else (none)) else (some false))) else (if x11_2 > 0 then (if 0 ≤ (wrap64 (x11_2 - 1)) then (if (wrap64 (x11_2 - 1)) < (x6_1.length : Int) then (some (bt546.2 == (rd x6_1 (wrap64 (x11_2 - 1))))) else (none)) else (none)) else (some false))) else (some false))) else (none))) = some r := by first | (rw [hy541]; with_reducible exact H) | (have H2_ := (Option.bind_some _ _).symm.trans H; rw [hy541]; with_reducible exact H2_) | (have H2_ := (Option.bind_some _ _).symm.trans H; with_reducible exact H2_) | with_reducible exact H | (rw [hy541]; exact H) | exact H
                            have Ny541 := Aside0.mk hy541
                            clear hy541
                            replace H := Option.bind_eq_some_iff.mp H
                            obtain ⟨⟨t546, t549⟩, A330, H⟩ := H
                            replace H : (if x11_2 ≤ (t526.length : Int) then ((plinthref03_SameAll.f k2 t546 (t526.take (x11_2 : Int).toNat)).bind fun t555 => (if t555 = true then (if x11_2 = 0 then (if t549 = 0 then (some true) else (if x11_2 > 0 then (if 0 ≤ (wrap64 (x11_2 - 1)) then (if (wrap64 (x11_2 - 1)) < (x6_1.length : Int) then (some (t549 == (rd x6_1 (wrap64 (x11_2 - 1))))) else (none)) else (none)) else (some false))) else (if x11_2 > 0 then (if 0 ≤ (wrap64 (x11_2 - 1)) then (if (wrap64 (x11_2 - 1)) < (x6_1.length : Int) then (some (t549 == (rd x6_1 (wrap64 (x11_2 - 1))))) else (none)) else (none)) else (some false))) else (some false))) else (none)) = some r := H
                            have A33 := Aside0.mk A330
                            clear A330
                            have c34b0 := eq_true (of_decide_eq_true (by first | (with_reducible assumption) | assumption) : 0 ≤ x11_2)
                            by_cases c35 : x11_2 ≤ (t526.length : Int)
                            · rw [if_pos c35] at H
                              have c35b0 := eq_true c35
                              have c35b1 : decide (x11_2 ≤ (t526.length : Int)) = true := decide_eq_true c35
                              clear c35
                              obtain ⟨y550, hy550⟩ : ∃ y_ : List (S26), y_ = (t526.take (x11_2 : Int).toNat) := ⟨_, rfl⟩
                              replace H : ((plinthref03_SameAll.f k2 t546 y550).bind fun t555 => (if t555 = true then (if x11_2 = 0 then (if t549 = 0 then (some true) else (if x11_2 > 0 then (if 0 ≤ (wrap64 (x11_2 - 1)) then (if (wrap64 (x11_2 - 1)) < (x6_1.length : Int) then (some (t549 == (rd x6_1 (wrap64 (x11_2 - 1))))) else (none)) else (none)) else (some false))) else (if x11_2 > 0 then (if 0 ≤ (wrap64 (x11_2 - 1)) then (if (wrap64 (x11_2 - 1)) < (x6_1.length : Int) then (some (t549 == (rd x6_1 (wrap64 (x11_2 - 1))))) else (none)) else (none)) else (some false))) else (some false))) = some r := by first | (rw [hy550]; with_reducible exact H) | (have H2_ := (Option.bind_some _ _).symm.trans H; rw [hy550]; with_reducible exact H2_) | (have H2_ := (Option.bind_some _ _).symm.trans H; with_reducible exact H2_) | with_reducible exact H | (rw [hy550]; exact H) | exact H
                              have Ny550 := Aside0.mk hy550
                              clear hy550
                              replace H := Option.bind_eq_some_iff.mp H
                              obtain ⟨t555, A360, H⟩ := H
                              replace H : (if t555 = true then (if x11_2 = 0 then (if t549 = 0 then (some true) else (if x11_2 > 0 then (if 0 ≤ (wrap64 (x11_2 - 1)) then (if (wrap64 (x11_2 - 1)) < (x6_1.length : Int) then (some (t549 == (rd x6_1 (wrap64 (x11_2 - 1))))) else (none)) else (none)) else (some false))) else (if x11_2 > 0 then (if 0 ≤ (wrap64 (x11_2 - 1)) then (if (wrap64 (x11_2 - 1)) < (x6_1.length : Int) then (some (t549 == (rd x6_1 (wrap64 (x11_2 - 1))))) else (none)) else (none)) else (some false))) else (some false)) = some r := H
                              have A36 := Aside0.mk A360
                              clear A360
                              by_cases c37 : t555 = true
                              · subst c37
                                have H1 : (if x11_2 = 0 then (if t549 = 0 then (some true) else (if x11_2 > 0 then (if 0 ≤ (wrap64 (x11_2 - 1)) then (if (wrap64 (x11_2 - 1)) < (x6_1.length : Int) then (some (t549 == (rd x6_1 (wrap64 (x11_2 - 1))))) else (none)) else (none)) else (some false))) else (if x11_2 > 0 then (if 0 ≤ (wrap64 (x11_2 - 1)) then (if (wrap64 (x11_2 - 1)) < (x6_1.length : Int) then (some (t549 == (rd x6_1 (wrap64 (x11_2 - 1))))) else (none)) else (none)) else (some false))) = some r := by rw [if_pos rfl] at H; exact H
                                clear H
                                have H := H1
                                clear H1
                                by_cases c38 : x11_2 = 0
                                · rw [if_pos c38] at H
                                  have c38b0 : (x11_2 == 0) = true := beq_iff_eq.mpr c38
                                  have c38b1 : (x11_2 != 0) = false := bne_eq_false_iff_eq.mpr c38
                                  clear c38
                                  by_cases c39 : t549 = 0
                                  · rw [if_pos c39] at H
                                    have c39b0 : (t549 == 0) = true := beq_iff_eq.mpr c39
                                    have c39b1 : (t549 != 0) = false := bne_eq_false_iff_eq.mpr c39
                                    clear c39
                                    obtain rfl := Option.some.inj H
                                    obtain ⟨Ao40, co40, eo40⟩ := Kd.R_slice HO_6.out
                                    subst eo40
                                    have p540 : 0 ≤ (x11_2 : Int) := of_decide_eq_true (by first | (with_reducible assumption) | assumption)
                                    have q540 : x11_2 < (x6_1.length : Int) := of_decide_eq_true (by first | (with_reducible assumption) | assumption)
                                    obtain ⟨ad540, e540, hx540_0⟩ := Kd.at_int (Kd.R_reads' HO_6.out).2.2 x11_2 p540 q540
                                    cases e540
                                    replace p540 := eq_true p540
                                    replace q540 := eq_true q540
                                    have q41 : ((ji30) : Int) ≤ ((x5_1.length : Int) : Int) := of_decide_eq_true (by first | (with_reducible assumption) | assumption)
                                    obtain ⟨i041, hi041, _, hsz41, _⟩ := info_parts info5
                                    have hroom41 : x5_1.length ≤ co24 := (Kd.R_reads' HO_5.out).2.1
                                    have hC41 : Kd.F (Kd.int .u8) _ _ Ao24 x5_1.length x5_1 := (Kd.V_at (base := w.heap.size) (Kd.R_V (Kd.R_apart' (Kd.R_apart' (HO_5.out) (Kd.N_typed HO_0.out) (by decide)) (Kd.R_typed HO_6.out) (by decide)))).2.2
                                    have hcut41 := cut_to (P := Try.prog) 22 5 .i64 Try.underlying22 hi041 Ao24 x5_1.length co24 (ji30) (of_decide_eq_true (by first | (with_reducible assumption) | assumption)) q41 hroom41
                                    have hr41 := Kd.F_take (m := ((ji30) : Int).toNat) hC41 (by omega)
                                    have hy41 : y541.length = ((ji30) : Int).toNat := (by rw [Ny541.out, List.length_take]; omega)
                                    rw [← Ny541.out] at hr41
                                    rw [← hy41] at hcut41
                                    have HO545 := Aside0.mk (show Kd.V (Kd.int .u8) 5 _ w.heap.size _ (.slice Ao24 y541.length co24) y541 from Kd.V_mk (by omega) hr41)
                                    have HC545 := Aside0.mk (show y541.length ≤ co24 from by omega)
                                    clear hr41 hC41 hroom41 hi041 hsz41
                                    have KY41 := Aside0.mk hy41
                                    clear hy41
                                    replace q41 := eq_true q41
                                    go_wp2_with (first | ((with_reducible refine gate_callee (f := 20) rfl ?_); refine goesL_ (some 66) rfl rfl Try.func20 (by kernel_rfl) rfl #[.slice Ao24 y541.length co24] rfl argA ?_; (with_reducible refine (frame_Scan.calls k2 _ _ y541 t546 t549 _ ?side1 ?side2 A33.out).mono ?_); (case side1 => exact upC ((Kd.V_reads' HO545.out).2.2)); (case side2 => exact (Kd.V_reads' HO545.out).2.1); rintro e w42 ⟨v547, rfl, ho0, hb⟩; refine ⟨_, rfl, ?_⟩; replace HO545 := Aside0.mk (Kd.V_below (upV HO545.out) hb); have HO548 := Aside0.mk (Kd.V_lower (Kd.V_mono (ok' := fun k_ => some k_ ≠ (.slice Ao23 t526.length co23 : Value).ownBlock ∧ some k_ ≠ (.slice Ao24 x5_1.length co24 : Value).ownBlock ∧ some k_ ≠ (.slice (some ad540) x6_1.length co40 : Value).ownBlock) ho0 (fun k_ hk_ => ⟨(Kd.fresh' (Kd.N_lt (by (with_reducible repeat (first | apply Kd.N_alloc | apply Kd.N_drewN | apply Kd.N_drew)); exact HO_0.out)) k_ hk_), (Kd.fresh' (Kd.R_lt (upR HO_5.out)) k_ hk_), (Kd.fresh' (Kd.R_lt (upR HO_6.out)) k_ hk_)⟩)) (below_size (upB0 HB.out))); replace HO_0 := Aside0.mk (Kd.N_below (by (with_reducible repeat (first | apply Kd.N_alloc | apply Kd.N_drewN | apply Kd.N_drew)); exact HO_0.out) hb); replace HO_5 := Aside0.mk (Kd.R_below (upR HO_5.out) hb); replace HO_6 := Aside0.mk (Kd.R_below (upR HO_6.out) hb); replace HB := Aside0.mk (below_step (upB0 HB.out) hb); (try clear hb); (try clear hb2); (try clear hk); (try clear hi); (try clear ho0); have q43 : (x11_2 : Int) ≤ ((t526.length : Int) : Int) := of_decide_eq_true (by first | (with_reducible assumption) | assumption); obtain ⟨i043, hi043, _, hsz43, _⟩ := info_parts info26; have hroom43 : t526.length ≤ co23 := (Kd.N_reads' HO_0.out).2.1; have hC43 : Kd.F k26 _ _ Ao23 t526.length t526 := (Kd.V_at (base := w.heap.size) (Kd.N_V HO_0.out)).2.2; have hcut43 := cut_to (P := Try.prog) 39 26 .i64 Try.underlying39 hi043 Ao23 t526.length co23 x11_2 (of_decide_eq_true (by first | (with_reducible assumption) | assumption)) q43 hroom43; have hr43 := Kd.F_take (m := (x11_2 : Int).toNat) hC43 (by omega); have hy43 : y550.length = (x11_2 : Int).toNat := (by rw [Ny550.out, List.length_take]; omega); rw [← Ny550.out] at hr43; rw [← hy43] at hcut43; have HO554 := Aside0.mk (show Kd.V k26 26 _ w.heap.size _ (.slice Ao23 y550.length co23) y550 from Kd.V_mk (by omega) hr43); have HC554 := Aside0.mk (show y550.length ≤ co23 from by omega); clear hr43 hC43 hroom43 hi043 hsz43; have KY43 := Aside0.mk hy43; clear hy43; replace q43 := eq_true q43; obtain ⟨Ao44, co44, eo44⟩ := Kd.V_slice HO548.out; subst eo44) | ((with_reducible refine gate_callee (f := 22) rfl ?_); refine goesL_ (some 73) rfl rfl Try.func22 (by kernel_rfl) rfl #[.slice Ao44 t546.length co44, .slice Ao23 y550.length co23] rfl argA ?_; (with_reducible refine (plinthref03_SameAll.calls k2 _ _ t546 _ _ y550 true _ ?side1 ?side2 ?side3 ?side4 A36.out).mono ?_); (case side1 => exact upC ((Kd.V_reads' HO548.out).2.2)); (case side2 => exact (Kd.V_reads' HO548.out).2.1); (case side3 => exact upC ((Kd.V_reads' HO554.out).2.2)); (case side4 => exact (Kd.V_reads' HO554.out).2.1); rintro e w45 ⟨rfl, hb⟩; refine ⟨_, rfl, ?_⟩; replace HO_0 := Aside0.mk (Kd.N_below (by (with_reducible repeat (first | apply Kd.N_alloc | apply Kd.N_drewN | apply Kd.N_drew)); exact HO_0.out) hb); replace HO_5 := Aside0.mk (Kd.R_below (upR HO_5.out) hb); replace HO_6 := Aside0.mk (Kd.R_below (upR HO_6.out) hb); replace HO545 := Aside0.mk (Kd.V_below (upV HO545.out) hb); replace HO548 := Aside0.mk (Kd.V_below (upV HO548.out) hb); replace HO554 := Aside0.mk (Kd.V_below (upV HO554.out) hb); replace HB := Aside0.mk (below_step (upB0 HB.out) hb); (try clear hb); (try clear hb2); (try clear hk); (try clear hi)))
                                    go_ret
                                    exact ⟨by first | rfl | (simp [errW_none, errW_some] <;> rfl) | (simp only [← hji30]; first | rfl | (simp [errW_none, errW_some] <;> rfl)) | (simp [*, errW_none, errW_some] <;> rfl), upB0 HB.out⟩
                                  · rw [if_neg c39] at H
                                    have c39b0 : (t549 == 0) = false := beq_eq_false_iff_ne.mpr c39
                                    have c39b1 : (t549 != 0) = true := bne_iff_ne.mpr c39
                                    by_cases c46 : x11_2 > 0
                                    · rw [if_pos c46] at H
                                      have c46b0 : decide (0 < x11_2) = true := decide_eq_true c46
                                      clear c46
                                      obtain ⟨ji47, hji47⟩ : ∃ j_ : Int, (wrap64 (x11_2 - 1)) = j_ := ⟨_, rfl⟩
                                      replace H : (if 0 ≤ (ji47) then (if (ji47) < (x6_1.length : Int) then (some (t549 == (rd x6_1 (ji47)))) else (none)) else (none)) = some r := by first | (rw [hji47] at H; exact H) | (simp only [hji47] at H ⊢; exact H)
                                      (try rw [hji47] at A33)
                                      (try rw [hji47] at A36)
                                      have hji47w : (IntKind.i64.wrap (x11_2 - 1)) = ji47 := (i64_w _).trans hji47
                                      by_cases c48 : 0 ≤ (ji47)
                                      · rw [if_pos c48] at H
                                        have c48b0 : decide (0 ≤ (ji47)) = true := decide_eq_true c48
                                        clear c48
                                        by_cases c49 : (ji47) < (x6_1.length : Int)
                                        · rw [if_pos c49] at H
                                          have c49b0 : decide ((ji47) < (x6_1.length : Int)) = true := decide_eq_true c49
                                          clear c49
                                          obtain rfl := Option.some.inj H
                                          obtain ⟨Ao50, co50, eo50⟩ := Kd.R_slice HO_6.out
                                          subst eo50
                                          have p540 : 0 ≤ (x11_2 : Int) := of_decide_eq_true (by first | (with_reducible assumption) | assumption)
                                          have q540 : x11_2 < (x6_1.length : Int) := of_decide_eq_true (by first | (with_reducible assumption) | assumption)
                                          obtain ⟨ad540, e540, hx540_0⟩ := Kd.at_int (Kd.R_reads' HO_6.out).2.2 x11_2 p540 q540
                                          cases e540
                                          replace p540 := eq_true p540
                                          replace q540 := eq_true q540
                                          have q51 : ((ji30) : Int) ≤ ((x5_1.length : Int) : Int) := of_decide_eq_true (by first | (with_reducible assumption) | assumption)
                                          obtain ⟨i051, hi051, _, hsz51, _⟩ := info_parts info5
                                          have hroom51 : x5_1.length ≤ co24 := (Kd.R_reads' HO_5.out).2.1
                                          have hC51 : Kd.F (Kd.int .u8) _ _ Ao24 x5_1.length x5_1 := (Kd.V_at (base := w.heap.size) (Kd.R_V (Kd.R_apart' (Kd.R_apart' (HO_5.out) (Kd.N_typed HO_0.out) (by decide)) (Kd.R_typed HO_6.out) (by decide)))).2.2
                                          have hcut51 := cut_to (P := Try.prog) 22 5 .i64 Try.underlying22 hi051 Ao24 x5_1.length co24 (ji30) (of_decide_eq_true (by first | (with_reducible assumption) | assumption)) q51 hroom51
                                          have hr51 := Kd.F_take (m := ((ji30) : Int).toNat) hC51 (by omega)
                                          have hy51 : y541.length = ((ji30) : Int).toNat := (by rw [Ny541.out, List.length_take]; omega)
                                          rw [← Ny541.out] at hr51
                                          rw [← hy51] at hcut51
                                          have HO545 := Aside0.mk (show Kd.V (Kd.int .u8) 5 _ w.heap.size _ (.slice Ao24 y541.length co24) y541 from Kd.V_mk (by omega) hr51)
                                          have HC545 := Aside0.mk (show y541.length ≤ co24 from by omega)
                                          clear hr51 hC51 hroom51 hi051 hsz51
                                          have KY51 := Aside0.mk hy51
                                          clear hy51
                                          replace q51 := eq_true q51
                                          go_wp2_with (first | ((with_reducible refine gate_callee (f := 20) rfl ?_); refine goesL_ (some 66) rfl rfl Try.func20 (by kernel_rfl) rfl #[.slice Ao24 y541.length co24] rfl argA ?_; (with_reducible refine (frame_Scan.calls k2 _ _ y541 t546 t549 _ ?side1 ?side2 A33.out).mono ?_); (case side1 => exact upC ((Kd.V_reads' HO545.out).2.2)); (case side2 => exact (Kd.V_reads' HO545.out).2.1); rintro e w52 ⟨v547, rfl, ho0, hb⟩; refine ⟨_, rfl, ?_⟩; replace HO545 := Aside0.mk (Kd.V_below (upV HO545.out) hb); have HO548 := Aside0.mk (Kd.V_lower (Kd.V_mono (ok' := fun k_ => some k_ ≠ (.slice Ao23 t526.length co23 : Value).ownBlock ∧ some k_ ≠ (.slice Ao24 x5_1.length co24 : Value).ownBlock ∧ some k_ ≠ (.slice (some ad540) x6_1.length co50 : Value).ownBlock) ho0 (fun k_ hk_ => ⟨(Kd.fresh' (Kd.N_lt (by (with_reducible repeat (first | apply Kd.N_alloc | apply Kd.N_drewN | apply Kd.N_drew)); exact HO_0.out)) k_ hk_), (Kd.fresh' (Kd.R_lt (upR HO_5.out)) k_ hk_), (Kd.fresh' (Kd.R_lt (upR HO_6.out)) k_ hk_)⟩)) (below_size (upB0 HB.out))); replace HO_0 := Aside0.mk (Kd.N_below (by (with_reducible repeat (first | apply Kd.N_alloc | apply Kd.N_drewN | apply Kd.N_drew)); exact HO_0.out) hb); replace HO_5 := Aside0.mk (Kd.R_below (upR HO_5.out) hb); replace HO_6 := Aside0.mk (Kd.R_below (upR HO_6.out) hb); replace HB := Aside0.mk (below_step (upB0 HB.out) hb); (try clear hb); (try clear hb2); (try clear hk); (try clear hi); (try clear ho0); have q53 : (x11_2 : Int) ≤ ((t526.length : Int) : Int) := of_decide_eq_true (by first | (with_reducible assumption) | assumption); obtain ⟨i053, hi053, _, hsz53, _⟩ := info_parts info26; have hroom53 : t526.length ≤ co23 := (Kd.N_reads' HO_0.out).2.1; have hC53 : Kd.F k26 _ _ Ao23 t526.length t526 := (Kd.V_at (base := w.heap.size) (Kd.N_V HO_0.out)).2.2; have hcut53 := cut_to (P := Try.prog) 39 26 .i64 Try.underlying39 hi053 Ao23 t526.length co23 x11_2 (of_decide_eq_true (by first | (with_reducible assumption) | assumption)) q53 hroom53; have hr53 := Kd.F_take (m := (x11_2 : Int).toNat) hC53 (by omega); have hy53 : y550.length = (x11_2 : Int).toNat := (by rw [Ny550.out, List.length_take]; omega); rw [← Ny550.out] at hr53; rw [← hy53] at hcut53; have HO554 := Aside0.mk (show Kd.V k26 26 _ w.heap.size _ (.slice Ao23 y550.length co23) y550 from Kd.V_mk (by omega) hr53); have HC554 := Aside0.mk (show y550.length ≤ co23 from by omega); clear hr53 hC53 hroom53 hi053 hsz53; have KY53 := Aside0.mk hy53; clear hy53; replace q53 := eq_true q53; obtain ⟨Ao54, co54, eo54⟩ := Kd.V_slice HO548.out; subst eo54) | ((with_reducible refine gate_callee (f := 22) rfl ?_); refine goesL_ (some 73) rfl rfl Try.func22 (by kernel_rfl) rfl #[.slice Ao54 t546.length co54, .slice Ao23 y550.length co23] rfl argA ?_; (with_reducible refine (plinthref03_SameAll.calls k2 _ _ t546 _ _ y550 true _ ?side1 ?side2 ?side3 ?side4 A36.out).mono ?_); (case side1 => exact upC ((Kd.V_reads' HO548.out).2.2)); (case side2 => exact (Kd.V_reads' HO548.out).2.1); (case side3 => exact upC ((Kd.V_reads' HO554.out).2.2)); (case side4 => exact (Kd.V_reads' HO554.out).2.1); rintro e w55 ⟨rfl, hb⟩; refine ⟨_, rfl, ?_⟩; replace HO_0 := Aside0.mk (Kd.N_below (by (with_reducible repeat (first | apply Kd.N_alloc | apply Kd.N_drewN | apply Kd.N_drew)); exact HO_0.out) hb); replace HO_5 := Aside0.mk (Kd.R_below (upR HO_5.out) hb); replace HO_6 := Aside0.mk (Kd.R_below (upR HO_6.out) hb); replace HO545 := Aside0.mk (Kd.V_below (upV HO545.out) hb); replace HO548 := Aside0.mk (Kd.V_below (upV HO548.out) hb); replace HO554 := Aside0.mk (Kd.V_below (upV HO554.out) hb); replace HB := Aside0.mk (below_step (upB0 HB.out) hb); (try clear hb); (try clear hb2); (try clear hk); (try clear hi); have p556 : 0 ≤ ((ji47) : Int) := of_decide_eq_true (by first | (with_reducible assumption) | assumption); have q556 : (ji47) < (x6_1.length : Int) := of_decide_eq_true (by first | (with_reducible assumption) | assumption); obtain ⟨ad556, e556, hx556_0⟩ := Kd.at_int (Kd.R_reads' HO_6.out).2.2 (ji47) p556 q556; obtain rfl : ad540 = ad556 := (by injection e556); replace p556 := eq_true p556; replace q556 := eq_true q556))
                                          go_ret
                                          exact ⟨by first | rfl | (simp [errW_none, errW_some] <;> rfl) | (simp only [← hji30, ← hji47]; first | rfl | (simp [errW_none, errW_some] <;> rfl)) | (simp [*, errW_none, errW_some] <;> rfl), upB0 HB.out⟩
                                        · rw [if_neg c49] at H
                                          exact absurd H (by simp)
                                      · rw [if_neg c48] at H
                                        exact absurd H (by simp)
                                    · rw [if_neg c46] at H
                                      have c46b0 : decide (0 < x11_2) = false := decide_eq_false c46
                                      clear c46
                                      obtain rfl := Option.some.inj H
                                      obtain ⟨Ao56, co56, eo56⟩ := Kd.R_slice HO_6.out
                                      subst eo56
                                      have p540 : 0 ≤ (x11_2 : Int) := of_decide_eq_true (by first | (with_reducible assumption) | assumption)
                                      have q540 : x11_2 < (x6_1.length : Int) := of_decide_eq_true (by first | (with_reducible assumption) | assumption)
                                      obtain ⟨ad540, e540, hx540_0⟩ := Kd.at_int (Kd.R_reads' HO_6.out).2.2 x11_2 p540 q540
                                      cases e540
                                      replace p540 := eq_true p540
                                      replace q540 := eq_true q540
                                      have q57 : ((ji30) : Int) ≤ ((x5_1.length : Int) : Int) := of_decide_eq_true (by first | (with_reducible assumption) | assumption)
                                      obtain ⟨i057, hi057, _, hsz57, _⟩ := info_parts info5
                                      have hroom57 : x5_1.length ≤ co24 := (Kd.R_reads' HO_5.out).2.1
                                      have hC57 : Kd.F (Kd.int .u8) _ _ Ao24 x5_1.length x5_1 := (Kd.V_at (base := w.heap.size) (Kd.R_V (Kd.R_apart' (Kd.R_apart' (HO_5.out) (Kd.N_typed HO_0.out) (by decide)) (Kd.R_typed HO_6.out) (by decide)))).2.2
                                      have hcut57 := cut_to (P := Try.prog) 22 5 .i64 Try.underlying22 hi057 Ao24 x5_1.length co24 (ji30) (of_decide_eq_true (by first | (with_reducible assumption) | assumption)) q57 hroom57
                                      have hr57 := Kd.F_take (m := ((ji30) : Int).toNat) hC57 (by omega)
                                      have hy57 : y541.length = ((ji30) : Int).toNat := (by rw [Ny541.out, List.length_take]; omega)
                                      rw [← Ny541.out] at hr57
                                      rw [← hy57] at hcut57
                                      have HO545 := Aside0.mk (show Kd.V (Kd.int .u8) 5 _ w.heap.size _ (.slice Ao24 y541.length co24) y541 from Kd.V_mk (by omega) hr57)
                                      have HC545 := Aside0.mk (show y541.length ≤ co24 from by omega)
                                      clear hr57 hC57 hroom57 hi057 hsz57
                                      have KY57 := Aside0.mk hy57
                                      clear hy57
                                      replace q57 := eq_true q57
                                      go_wp2_with (first | ((with_reducible refine gate_callee (f := 20) rfl ?_); refine goesL_ (some 66) rfl rfl Try.func20 (by kernel_rfl) rfl #[.slice Ao24 y541.length co24] rfl argA ?_; (with_reducible refine (frame_Scan.calls k2 _ _ y541 t546 t549 _ ?side1 ?side2 A33.out).mono ?_); (case side1 => exact upC ((Kd.V_reads' HO545.out).2.2)); (case side2 => exact (Kd.V_reads' HO545.out).2.1); rintro e w58 ⟨v547, rfl, ho0, hb⟩; refine ⟨_, rfl, ?_⟩; replace HO545 := Aside0.mk (Kd.V_below (upV HO545.out) hb); have HO548 := Aside0.mk (Kd.V_lower (Kd.V_mono (ok' := fun k_ => some k_ ≠ (.slice Ao23 t526.length co23 : Value).ownBlock ∧ some k_ ≠ (.slice Ao24 x5_1.length co24 : Value).ownBlock ∧ some k_ ≠ (.slice (some ad540) x6_1.length co56 : Value).ownBlock) ho0 (fun k_ hk_ => ⟨(Kd.fresh' (Kd.N_lt (by (with_reducible repeat (first | apply Kd.N_alloc | apply Kd.N_drewN | apply Kd.N_drew)); exact HO_0.out)) k_ hk_), (Kd.fresh' (Kd.R_lt (upR HO_5.out)) k_ hk_), (Kd.fresh' (Kd.R_lt (upR HO_6.out)) k_ hk_)⟩)) (below_size (upB0 HB.out))); replace HO_0 := Aside0.mk (Kd.N_below (by (with_reducible repeat (first | apply Kd.N_alloc | apply Kd.N_drewN | apply Kd.N_drew)); exact HO_0.out) hb); replace HO_5 := Aside0.mk (Kd.R_below (upR HO_5.out) hb); replace HO_6 := Aside0.mk (Kd.R_below (upR HO_6.out) hb); replace HB := Aside0.mk (below_step (upB0 HB.out) hb); (try clear hb); (try clear hb2); (try clear hk); (try clear hi); (try clear ho0); have q59 : (x11_2 : Int) ≤ ((t526.length : Int) : Int) := of_decide_eq_true (by first | (with_reducible assumption) | assumption); obtain ⟨i059, hi059, _, hsz59, _⟩ := info_parts info26; have hroom59 : t526.length ≤ co23 := (Kd.N_reads' HO_0.out).2.1; have hC59 : Kd.F k26 _ _ Ao23 t526.length t526 := (Kd.V_at (base := w.heap.size) (Kd.N_V HO_0.out)).2.2; have hcut59 := cut_to (P := Try.prog) 39 26 .i64 Try.underlying39 hi059 Ao23 t526.length co23 x11_2 (of_decide_eq_true (by first | (with_reducible assumption) | assumption)) q59 hroom59; have hr59 := Kd.F_take (m := (x11_2 : Int).toNat) hC59 (by omega); have hy59 : y550.length = (x11_2 : Int).toNat := (by rw [Ny550.out, List.length_take]; omega); rw [← Ny550.out] at hr59; rw [← hy59] at hcut59; have HO554 := Aside0.mk (show Kd.V k26 26 _ w.heap.size _ (.slice Ao23 y550.length co23) y550 from Kd.V_mk (by omega) hr59); have HC554 := Aside0.mk (show y550.length ≤ co23 from by omega); clear hr59 hC59 hroom59 hi059 hsz59; have KY59 := Aside0.mk hy59; clear hy59; replace q59 := eq_true q59; obtain ⟨Ao60, co60, eo60⟩ := Kd.V_slice HO548.out; subst eo60) | ((with_reducible refine gate_callee (f := 22) rfl ?_); refine goesL_ (some 73) rfl rfl Try.func22 (by kernel_rfl) rfl #[.slice Ao60 t546.length co60, .slice Ao23 y550.length co23] rfl argA ?_; (with_reducible refine (plinthref03_SameAll.calls k2 _ _ t546 _ _ y550 true _ ?side1 ?side2 ?side3 ?side4 A36.out).mono ?_); (case side1 => exact upC ((Kd.V_reads' HO548.out).2.2)); (case side2 => exact (Kd.V_reads' HO548.out).2.1); (case side3 => exact upC ((Kd.V_reads' HO554.out).2.2)); (case side4 => exact (Kd.V_reads' HO554.out).2.1); rintro e w61 ⟨rfl, hb⟩; refine ⟨_, rfl, ?_⟩; replace HO_0 := Aside0.mk (Kd.N_below (by (with_reducible repeat (first | apply Kd.N_alloc | apply Kd.N_drewN | apply Kd.N_drew)); exact HO_0.out) hb); replace HO_5 := Aside0.mk (Kd.R_below (upR HO_5.out) hb); replace HO_6 := Aside0.mk (Kd.R_below (upR HO_6.out) hb); replace HO545 := Aside0.mk (Kd.V_below (upV HO545.out) hb); replace HO548 := Aside0.mk (Kd.V_below (upV HO548.out) hb); replace HO554 := Aside0.mk (Kd.V_below (upV HO554.out) hb); replace HB := Aside0.mk (below_step (upB0 HB.out) hb); (try clear hb); (try clear hb2); (try clear hk); (try clear hi)))
                                      go_ret
                                      exact ⟨by first | rfl | (simp [errW_none, errW_some] <;> rfl) | (simp only [← hji30]; first | rfl | (simp [errW_none, errW_some] <;> rfl)) | (simp [*, errW_none, errW_some] <;> rfl), upB0 HB.out⟩
                                · rw [if_neg c38] at H
                                  have c38b0 : (x11_2 == 0) = false := beq_eq_false_iff_ne.mpr c38
                                  have c38b1 : (x11_2 != 0) = true := bne_iff_ne.mpr c38
                                  by_cases c62 : x11_2 > 0
                                  · rw [if_pos c62] at H
                                    have c62b0 : decide (0 < x11_2) = true := decide_eq_true c62
                                    clear c62
                                    obtain ⟨ji63, hji63⟩ : ∃ j_ : Int, (wrap64 (x11_2 - 1)) = j_ := ⟨_, rfl⟩
                                    replace H : (if 0 ≤ (ji63) then (if (ji63) < (x6_1.length : Int) then (some (t549 == (rd x6_1 (ji63)))) else (none)) else (none)) = some r := by first | (rw [hji63] at H; exact H) | (simp only [hji63] at H ⊢; exact H)
                                    (try rw [hji63] at A33)
                                    (try rw [hji63] at A36)
                                    have hji63w : (IntKind.i64.wrap (x11_2 - 1)) = ji63 := (i64_w _).trans hji63
                                    by_cases c64 : 0 ≤ (ji63)
                                    · rw [if_pos c64] at H
                                      have c64b0 : decide (0 ≤ (ji63)) = true := decide_eq_true c64
                                      clear c64
                                      by_cases c65 : (ji63) < (x6_1.length : Int)
                                      · rw [if_pos c65] at H
                                        have c65b0 : decide ((ji63) < (x6_1.length : Int)) = true := decide_eq_true c65
                                        clear c65
                                        obtain rfl := Option.some.inj H
                                        obtain ⟨Ao66, co66, eo66⟩ := Kd.R_slice HO_6.out
                                        subst eo66
                                        have p540 : 0 ≤ (x11_2 : Int) := of_decide_eq_true (by first | (with_reducible assumption) | assumption)
                                        have q540 : x11_2 < (x6_1.length : Int) := of_decide_eq_true (by first | (with_reducible assumption) | assumption)
                                        obtain ⟨ad540, e540, hx540_0⟩ := Kd.at_int (Kd.R_reads' HO_6.out).2.2 x11_2 p540 q540
                                        cases e540
                                        replace p540 := eq_true p540
                                        replace q540 := eq_true q540
                                        have q67 : ((ji30) : Int) ≤ ((x5_1.length : Int) : Int) := of_decide_eq_true (by first | (with_reducible assumption) | assumption)
                                        obtain ⟨i067, hi067, _, hsz67, _⟩ := info_parts info5
                                        have hroom67 : x5_1.length ≤ co24 := (Kd.R_reads' HO_5.out).2.1
                                        have hC67 : Kd.F (Kd.int .u8) _ _ Ao24 x5_1.length x5_1 := (Kd.V_at (base := w.heap.size) (Kd.R_V (Kd.R_apart' (Kd.R_apart' (HO_5.out) (Kd.N_typed HO_0.out) (by decide)) (Kd.R_typed HO_6.out) (by decide)))).2.2
                                        have hcut67 := cut_to (P := Try.prog) 22 5 .i64 Try.underlying22 hi067 Ao24 x5_1.length co24 (ji30) (of_decide_eq_true (by first | (with_reducible assumption) | assumption)) q67 hroom67
                                        have hr67 := Kd.F_take (m := ((ji30) : Int).toNat) hC67 (by omega)
                                        have hy67 : y541.length = ((ji30) : Int).toNat := (by rw [Ny541.out, List.length_take]; omega)
                                        rw [← Ny541.out] at hr67
                                        rw [← hy67] at hcut67
                                        have HO545 := Aside0.mk (show Kd.V (Kd.int .u8) 5 _ w.heap.size _ (.slice Ao24 y541.length co24) y541 from Kd.V_mk (by omega) hr67)
                                        have HC545 := Aside0.mk (show y541.length ≤ co24 from by omega)
                                        clear hr67 hC67 hroom67 hi067 hsz67
                                        have KY67 := Aside0.mk hy67
                                        clear hy67
                                        replace q67 := eq_true q67
                                        go_wp2_with (first | ((with_reducible refine gate_callee (f := 20) rfl ?_); refine goesL_ (some 66) rfl rfl Try.func20 (by kernel_rfl) rfl #[.slice Ao24 y541.length co24] rfl argA ?_; (with_reducible refine (frame_Scan.calls k2 _ _ y541 t546 t549 _ ?side1 ?side2 A33.out).mono ?_); (case side1 => exact upC ((Kd.V_reads' HO545.out).2.2)); (case side2 => exact (Kd.V_reads' HO545.out).2.1); rintro e w68 ⟨v547, rfl, ho0, hb⟩; refine ⟨_, rfl, ?_⟩; replace HO545 := Aside0.mk (Kd.V_below (upV HO545.out) hb); have HO548 := Aside0.mk (Kd.V_lower (Kd.V_mono (ok' := fun k_ => some k_ ≠ (.slice Ao23 t526.length co23 : Value).ownBlock ∧ some k_ ≠ (.slice Ao24 x5_1.length co24 : Value).ownBlock ∧ some k_ ≠ (.slice (some ad540) x6_1.length co66 : Value).ownBlock) ho0 (fun k_ hk_ => ⟨(Kd.fresh' (Kd.N_lt (by (with_reducible repeat (first | apply Kd.N_alloc | apply Kd.N_drewN | apply Kd.N_drew)); exact HO_0.out)) k_ hk_), (Kd.fresh' (Kd.R_lt (upR HO_5.out)) k_ hk_), (Kd.fresh' (Kd.R_lt (upR HO_6.out)) k_ hk_)⟩)) (below_size (upB0 HB.out))); replace HO_0 := Aside0.mk (Kd.N_below (by (with_reducible repeat (first | apply Kd.N_alloc | apply Kd.N_drewN | apply Kd.N_drew)); exact HO_0.out) hb); replace HO_5 := Aside0.mk (Kd.R_below (upR HO_5.out) hb); replace HO_6 := Aside0.mk (Kd.R_below (upR HO_6.out) hb); replace HB := Aside0.mk (below_step (upB0 HB.out) hb); (try clear hb); (try clear hb2); (try clear hk); (try clear hi); (try clear ho0); have q69 : (x11_2 : Int) ≤ ((t526.length : Int) : Int) := of_decide_eq_true (by first | (with_reducible assumption) | assumption); obtain ⟨i069, hi069, _, hsz69, _⟩ := info_parts info26; have hroom69 : t526.length ≤ co23 := (Kd.N_reads' HO_0.out).2.1; have hC69 : Kd.F k26 _ _ Ao23 t526.length t526 := (Kd.V_at (base := w.heap.size) (Kd.N_V HO_0.out)).2.2; have hcut69 := cut_to (P := Try.prog) 39 26 .i64 Try.underlying39 hi069 Ao23 t526.length co23 x11_2 (of_decide_eq_true (by first | (with_reducible assumption) | assumption)) q69 hroom69; have hr69 := Kd.F_take (m := (x11_2 : Int).toNat) hC69 (by omega); have hy69 : y550.length = (x11_2 : Int).toNat := (by rw [Ny550.out, List.length_take]; omega); rw [← Ny550.out] at hr69; rw [← hy69] at hcut69; have HO554 := Aside0.mk (show Kd.V k26 26 _ w.heap.size _ (.slice Ao23 y550.length co23) y550 from Kd.V_mk (by omega) hr69); have HC554 := Aside0.mk (show y550.length ≤ co23 from by omega); clear hr69 hC69 hroom69 hi069 hsz69; have KY69 := Aside0.mk hy69; clear hy69; replace q69 := eq_true q69; obtain ⟨Ao70, co70, eo70⟩ := Kd.V_slice HO548.out; subst eo70) | ((with_reducible refine gate_callee (f := 22) rfl ?_); refine goesL_ (some 73) rfl rfl Try.func22 (by kernel_rfl) rfl #[.slice Ao70 t546.length co70, .slice Ao23 y550.length co23] rfl argA ?_; (with_reducible refine (plinthref03_SameAll.calls k2 _ _ t546 _ _ y550 true _ ?side1 ?side2 ?side3 ?side4 A36.out).mono ?_); (case side1 => exact upC ((Kd.V_reads' HO548.out).2.2)); (case side2 => exact (Kd.V_reads' HO548.out).2.1); (case side3 => exact upC ((Kd.V_reads' HO554.out).2.2)); (case side4 => exact (Kd.V_reads' HO554.out).2.1); rintro e w71 ⟨rfl, hb⟩; refine ⟨_, rfl, ?_⟩; replace HO_0 := Aside0.mk (Kd.N_below (by (with_reducible repeat (first | apply Kd.N_alloc | apply Kd.N_drewN | apply Kd.N_drew)); exact HO_0.out) hb); replace HO_5 := Aside0.mk (Kd.R_below (upR HO_5.out) hb); replace HO_6 := Aside0.mk (Kd.R_below (upR HO_6.out) hb); replace HO545 := Aside0.mk (Kd.V_below (upV HO545.out) hb); replace HO548 := Aside0.mk (Kd.V_below (upV HO548.out) hb); replace HO554 := Aside0.mk (Kd.V_below (upV HO554.out) hb); replace HB := Aside0.mk (below_step (upB0 HB.out) hb); (try clear hb); (try clear hb2); (try clear hk); (try clear hi); have p557 : 0 ≤ ((ji63) : Int) := of_decide_eq_true (by first | (with_reducible assumption) | assumption); have q557 : (ji63) < (x6_1.length : Int) := of_decide_eq_true (by first | (with_reducible assumption) | assumption); obtain ⟨ad557, e557, hx557_0⟩ := Kd.at_int (Kd.R_reads' HO_6.out).2.2 (ji63) p557 q557; obtain rfl : ad540 = ad557 := (by injection e557); replace p557 := eq_true p557; replace q557 := eq_true q557))
                                        go_ret
                                        exact ⟨by first | rfl | (simp [errW_none, errW_some] <;> rfl) | (simp only [← hji30, ← hji63]; first | rfl | (simp [errW_none, errW_some] <;> rfl)) | (simp [*, errW_none, errW_some] <;> rfl), upB0 HB.out⟩
                                      · rw [if_neg c65] at H
                                        exact absurd H (by simp)
                                    · rw [if_neg c64] at H
                                      exact absurd H (by simp)
                                  · rw [if_neg c62] at H
                                    have c62b0 : decide (0 < x11_2) = false := decide_eq_false c62
                                    clear c62
                                    obtain rfl := Option.some.inj H
                                    obtain ⟨Ao72, co72, eo72⟩ := Kd.R_slice HO_6.out
                                    subst eo72
                                    have p540 : 0 ≤ (x11_2 : Int) := of_decide_eq_true (by first | (with_reducible assumption) | assumption)
                                    have q540 : x11_2 < (x6_1.length : Int) := of_decide_eq_true (by first | (with_reducible assumption) | assumption)
                                    obtain ⟨ad540, e540, hx540_0⟩ := Kd.at_int (Kd.R_reads' HO_6.out).2.2 x11_2 p540 q540
                                    cases e540
                                    replace p540 := eq_true p540
                                    replace q540 := eq_true q540
                                    have q73 : ((ji30) : Int) ≤ ((x5_1.length : Int) : Int) := of_decide_eq_true (by first | (with_reducible assumption) | assumption)
                                    obtain ⟨i073, hi073, _, hsz73, _⟩ := info_parts info5
                                    have hroom73 : x5_1.length ≤ co24 := (Kd.R_reads' HO_5.out).2.1
                                    have hC73 : Kd.F (Kd.int .u8) _ _ Ao24 x5_1.length x5_1 := (Kd.V_at (base := w.heap.size) (Kd.R_V (Kd.R_apart' (Kd.R_apart' (HO_5.out) (Kd.N_typed HO_0.out) (by decide)) (Kd.R_typed HO_6.out) (by decide)))).2.2
                                    have hcut73 := cut_to (P := Try.prog) 22 5 .i64 Try.underlying22 hi073 Ao24 x5_1.length co24 (ji30) (of_decide_eq_true (by first | (with_reducible assumption) | assumption)) q73 hroom73
                                    have hr73 := Kd.F_take (m := ((ji30) : Int).toNat) hC73 (by omega)
                                    have hy73 : y541.length = ((ji30) : Int).toNat := (by rw [Ny541.out, List.length_take]; omega)
                                    rw [← Ny541.out] at hr73
                                    rw [← hy73] at hcut73
                                    have HO545 := Aside0.mk (show Kd.V (Kd.int .u8) 5 _ w.heap.size _ (.slice Ao24 y541.length co24) y541 from Kd.V_mk (by omega) hr73)
                                    have HC545 := Aside0.mk (show y541.length ≤ co24 from by omega)
                                    clear hr73 hC73 hroom73 hi073 hsz73
                                    have KY73 := Aside0.mk hy73
                                    clear hy73
                                    replace q73 := eq_true q73
                                    go_wp2_with (first | ((with_reducible refine gate_callee (f := 20) rfl ?_); refine goesL_ (some 66) rfl rfl Try.func20 (by kernel_rfl) rfl #[.slice Ao24 y541.length co24] rfl argA ?_; (with_reducible refine (frame_Scan.calls k2 _ _ y541 t546 t549 _ ?side1 ?side2 A33.out).mono ?_); (case side1 => exact upC ((Kd.V_reads' HO545.out).2.2)); (case side2 => exact (Kd.V_reads' HO545.out).2.1); rintro e w74 ⟨v547, rfl, ho0, hb⟩; refine ⟨_, rfl, ?_⟩; replace HO545 := Aside0.mk (Kd.V_below (upV HO545.out) hb); have HO548 := Aside0.mk (Kd.V_lower (Kd.V_mono (ok' := fun k_ => some k_ ≠ (.slice Ao23 t526.length co23 : Value).ownBlock ∧ some k_ ≠ (.slice Ao24 x5_1.length co24 : Value).ownBlock ∧ some k_ ≠ (.slice (some ad540) x6_1.length co72 : Value).ownBlock) ho0 (fun k_ hk_ => ⟨(Kd.fresh' (Kd.N_lt (by (with_reducible repeat (first | apply Kd.N_alloc | apply Kd.N_drewN | apply Kd.N_drew)); exact HO_0.out)) k_ hk_), (Kd.fresh' (Kd.R_lt (upR HO_5.out)) k_ hk_), (Kd.fresh' (Kd.R_lt (upR HO_6.out)) k_ hk_)⟩)) (below_size (upB0 HB.out))); replace HO_0 := Aside0.mk (Kd.N_below (by (with_reducible repeat (first | apply Kd.N_alloc | apply Kd.N_drewN | apply Kd.N_drew)); exact HO_0.out) hb); replace HO_5 := Aside0.mk (Kd.R_below (upR HO_5.out) hb); replace HO_6 := Aside0.mk (Kd.R_below (upR HO_6.out) hb); replace HB := Aside0.mk (below_step (upB0 HB.out) hb); (try clear hb); (try clear hb2); (try clear hk); (try clear hi); (try clear ho0); have q75 : (x11_2 : Int) ≤ ((t526.length : Int) : Int) := of_decide_eq_true (by first | (with_reducible assumption) | assumption); obtain ⟨i075, hi075, _, hsz75, _⟩ := info_parts info26; have hroom75 : t526.length ≤ co23 := (Kd.N_reads' HO_0.out).2.1; have hC75 : Kd.F k26 _ _ Ao23 t526.length t526 := (Kd.V_at (base := w.heap.size) (Kd.N_V HO_0.out)).2.2; have hcut75 := cut_to (P := Try.prog) 39 26 .i64 Try.underlying39 hi075 Ao23 t526.length co23 x11_2 (of_decide_eq_true (by first | (with_reducible assumption) | assumption)) q75 hroom75; have hr75 := Kd.F_take (m := (x11_2 : Int).toNat) hC75 (by omega); have hy75 : y550.length = (x11_2 : Int).toNat := (by rw [Ny550.out, List.length_take]; omega); rw [← Ny550.out] at hr75; rw [← hy75] at hcut75; have HO554 := Aside0.mk (show Kd.V k26 26 _ w.heap.size _ (.slice Ao23 y550.length co23) y550 from Kd.V_mk (by omega) hr75); have HC554 := Aside0.mk (show y550.length ≤ co23 from by omega); clear hr75 hC75 hroom75 hi075 hsz75; have KY75 := Aside0.mk hy75; clear hy75; replace q75 := eq_true q75; obtain ⟨Ao76, co76, eo76⟩ := Kd.V_slice HO548.out; subst eo76) | ((with_reducible refine gate_callee (f := 22) rfl ?_); refine goesL_ (some 73) rfl rfl Try.func22 (by kernel_rfl) rfl #[.slice Ao76 t546.length co76, .slice Ao23 y550.length co23] rfl argA ?_; (with_reducible refine (plinthref03_SameAll.calls k2 _ _ t546 _ _ y550 true _ ?side1 ?side2 ?side3 ?side4 A36.out).mono ?_); (case side1 => exact upC ((Kd.V_reads' HO548.out).2.2)); (case side2 => exact (Kd.V_reads' HO548.out).2.1); (case side3 => exact upC ((Kd.V_reads' HO554.out).2.2)); (case side4 => exact (Kd.V_reads' HO554.out).2.1); rintro e w77 ⟨rfl, hb⟩; refine ⟨_, rfl, ?_⟩; replace HO_0 := Aside0.mk (Kd.N_below (by (with_reducible repeat (first | apply Kd.N_alloc | apply Kd.N_drewN | apply Kd.N_drew)); exact HO_0.out) hb); replace HO_5 := Aside0.mk (Kd.R_below (upR HO_5.out) hb); replace HO_6 := Aside0.mk (Kd.R_below (upR HO_6.out) hb); replace HO545 := Aside0.mk (Kd.V_below (upV HO545.out) hb); replace HO548 := Aside0.mk (Kd.V_below (upV HO548.out) hb); replace HO554 := Aside0.mk (Kd.V_below (upV HO554.out) hb); replace HB := Aside0.mk (below_step (upB0 HB.out) hb); (try clear hb); (try clear hb2); (try clear hk); (try clear hi)))
                                    go_ret
                                    exact ⟨by first | rfl | (simp [errW_none, errW_some] <;> rfl) | (simp only [← hji30]; first | rfl | (simp [errW_none, errW_some] <;> rfl)) | (simp [*, errW_none, errW_some] <;> rfl), upB0 HB.out⟩
                              · replace c37 := Bool.eq_false_iff.mpr c37
                                subst c37
                                have H1 : (some false) = some r := by rw [if_neg (show ¬ (false = true) by decide)] at H; exact H
                                clear H
                                have H := H1
                                clear H1
                                obtain rfl := Option.some.inj H
                                obtain ⟨Ao78, co78, eo78⟩ := Kd.R_slice HO_6.out
                                subst eo78
                                have p540 : 0 ≤ (x11_2 : Int) := of_decide_eq_true (by first | (with_reducible assumption) | assumption)
                                have q540 : x11_2 < (x6_1.length : Int) := of_decide_eq_true (by first | (with_reducible assumption) | assumption)
                                obtain ⟨ad540, e540, hx540_0⟩ := Kd.at_int (Kd.R_reads' HO_6.out).2.2 x11_2 p540 q540
                                cases e540
                                replace p540 := eq_true p540
                                replace q540 := eq_true q540
                                have q79 : ((ji30) : Int) ≤ ((x5_1.length : Int) : Int) := of_decide_eq_true (by first | (with_reducible assumption) | assumption)
                                obtain ⟨i079, hi079, _, hsz79, _⟩ := info_parts info5
                                have hroom79 : x5_1.length ≤ co24 := (Kd.R_reads' HO_5.out).2.1
                                have hC79 : Kd.F (Kd.int .u8) _ _ Ao24 x5_1.length x5_1 := (Kd.V_at (base := w.heap.size) (Kd.R_V (Kd.R_apart' (Kd.R_apart' (HO_5.out) (Kd.N_typed HO_0.out) (by decide)) (Kd.R_typed HO_6.out) (by decide)))).2.2
                                have hcut79 := cut_to (P := Try.prog) 22 5 .i64 Try.underlying22 hi079 Ao24 x5_1.length co24 (ji30) (of_decide_eq_true (by first | (with_reducible assumption) | assumption)) q79 hroom79
                                have hr79 := Kd.F_take (m := ((ji30) : Int).toNat) hC79 (by omega)
                                have hy79 : y541.length = ((ji30) : Int).toNat := (by rw [Ny541.out, List.length_take]; omega)
                                rw [← Ny541.out] at hr79
                                rw [← hy79] at hcut79
                                have HO545 := Aside0.mk (show Kd.V (Kd.int .u8) 5 _ w.heap.size _ (.slice Ao24 y541.length co24) y541 from Kd.V_mk (by omega) hr79)
                                have HC545 := Aside0.mk (show y541.length ≤ co24 from by omega)
                                clear hr79 hC79 hroom79 hi079 hsz79
                                have KY79 := Aside0.mk hy79
                                clear hy79
                                replace q79 := eq_true q79
                                go_wp2_with (first | ((with_reducible refine gate_callee (f := 20) rfl ?_); refine goesL_ (some 66) rfl rfl Try.func20 (by kernel_rfl) rfl #[.slice Ao24 y541.length co24] rfl argA ?_; (with_reducible refine (frame_Scan.calls k2 _ _ y541 t546 t549 _ ?side1 ?side2 A33.out).mono ?_); (case side1 => exact upC ((Kd.V_reads' HO545.out).2.2)); (case side2 => exact (Kd.V_reads' HO545.out).2.1); rintro e w80 ⟨v547, rfl, ho0, hb⟩; refine ⟨_, rfl, ?_⟩; replace HO545 := Aside0.mk (Kd.V_below (upV HO545.out) hb); have HO548 := Aside0.mk (Kd.V_lower (Kd.V_mono (ok' := fun k_ => some k_ ≠ (.slice Ao23 t526.length co23 : Value).ownBlock ∧ some k_ ≠ (.slice Ao24 x5_1.length co24 : Value).ownBlock ∧ some k_ ≠ (.slice (some ad540) x6_1.length co78 : Value).ownBlock) ho0 (fun k_ hk_ => ⟨(Kd.fresh' (Kd.N_lt (by (with_reducible repeat (first | apply Kd.N_alloc | apply Kd.N_drewN | apply Kd.N_drew)); exact HO_0.out)) k_ hk_), (Kd.fresh' (Kd.R_lt (upR HO_5.out)) k_ hk_), (Kd.fresh' (Kd.R_lt (upR HO_6.out)) k_ hk_)⟩)) (below_size (upB0 HB.out))); replace HO_0 := Aside0.mk (Kd.N_below (by (with_reducible repeat (first | apply Kd.N_alloc | apply Kd.N_drewN | apply Kd.N_drew)); exact HO_0.out) hb); replace HO_5 := Aside0.mk (Kd.R_below (upR HO_5.out) hb); replace HO_6 := Aside0.mk (Kd.R_below (upR HO_6.out) hb); replace HB := Aside0.mk (below_step (upB0 HB.out) hb); (try clear hb); (try clear hb2); (try clear hk); (try clear hi); (try clear ho0); have q81 : (x11_2 : Int) ≤ ((t526.length : Int) : Int) := of_decide_eq_true (by first | (with_reducible assumption) | assumption); obtain ⟨i081, hi081, _, hsz81, _⟩ := info_parts info26; have hroom81 : t526.length ≤ co23 := (Kd.N_reads' HO_0.out).2.1; have hC81 : Kd.F k26 _ _ Ao23 t526.length t526 := (Kd.V_at (base := w.heap.size) (Kd.N_V HO_0.out)).2.2; have hcut81 := cut_to (P := Try.prog) 39 26 .i64 Try.underlying39 hi081 Ao23 t526.length co23 x11_2 (of_decide_eq_true (by first | (with_reducible assumption) | assumption)) q81 hroom81; have hr81 := Kd.F_take (m := (x11_2 : Int).toNat) hC81 (by omega); have hy81 : y550.length = (x11_2 : Int).toNat := (by rw [Ny550.out, List.length_take]; omega); rw [← Ny550.out] at hr81; rw [← hy81] at hcut81; have HO554 := Aside0.mk (show Kd.V k26 26 _ w.heap.size _ (.slice Ao23 y550.length co23) y550 from Kd.V_mk (by omega) hr81); have HC554 := Aside0.mk (show y550.length ≤ co23 from by omega); clear hr81 hC81 hroom81 hi081 hsz81; have KY81 := Aside0.mk hy81; clear hy81; replace q81 := eq_true q81; obtain ⟨Ao82, co82, eo82⟩ := Kd.V_slice HO548.out; subst eo82) | ((with_reducible refine gate_callee (f := 22) rfl ?_); refine goesL_ (some 73) rfl rfl Try.func22 (by kernel_rfl) rfl #[.slice Ao82 t546.length co82, .slice Ao23 y550.length co23] rfl argA ?_; (with_reducible refine (plinthref03_SameAll.calls k2 _ _ t546 _ _ y550 false _ ?side1 ?side2 ?side3 ?side4 A36.out).mono ?_); (case side1 => exact upC ((Kd.V_reads' HO548.out).2.2)); (case side2 => exact (Kd.V_reads' HO548.out).2.1); (case side3 => exact upC ((Kd.V_reads' HO554.out).2.2)); (case side4 => exact (Kd.V_reads' HO554.out).2.1); rintro e w83 ⟨rfl, hb⟩; refine ⟨_, rfl, ?_⟩; replace HO_0 := Aside0.mk (Kd.N_below (by (with_reducible repeat (first | apply Kd.N_alloc | apply Kd.N_drewN | apply Kd.N_drew)); exact HO_0.out) hb); replace HO_5 := Aside0.mk (Kd.R_below (upR HO_5.out) hb); replace HO_6 := Aside0.mk (Kd.R_below (upR HO_6.out) hb); replace HO545 := Aside0.mk (Kd.V_below (upV HO545.out) hb); replace HO548 := Aside0.mk (Kd.V_below (upV HO548.out) hb); replace HO554 := Aside0.mk (Kd.V_below (upV HO554.out) hb); replace HB := Aside0.mk (below_step (upB0 HB.out) hb); (try clear hb); (try clear hb2); (try clear hk); (try clear hi)))
                                go_ret
                                exact ⟨by first | rfl | (simp [errW_none, errW_some] <;> rfl) | (simp only [← hji30]; first | rfl | (simp [errW_none, errW_some] <;> rfl)) | (simp [*, errW_none, errW_some] <;> rfl), upB0 HB.out⟩
                            · rw [if_neg c35] at H
                              exact absurd H (by simp)
                          · rw [if_neg c32] at H
                            exact absurd H (by simp)
                        · rw [if_neg c31] at H
                          exact absurd H (by simp)
                    · rw [if_neg c27] at H
                      exact absurd H (by simp)
                  · rw [if_neg c26] at H
                    exact absurd H (by simp)
                · rw [if_neg c25] at H
                  have c25b0 : decide (x11_2 < (t526.length : Int)) = false := decide_eq_false c25
                  clear c25
                  obtain ⟨ji84, hji84⟩ : ∃ j_ : Int, (Int.tmod (wrap64 (a1)) (wrap64 ((x5_1.length : Int) + 1))) = j_ := ⟨_, rfl⟩
                  replace H : (if 0 ≤ (ji84) then (if (ji84) ≤ (x5_1.length : Int) then ((frame_Scan.f k2 (x5_1.take ((ji84) : Int).toNat)).bind fun bt563 => (if 0 ≤ x11_2 then (if x11_2 ≤ (t526.length : Int) then ((plinthref03_SameAll.f k2 bt563.1 (t526.take (x11_2 : Int).toNat)).bind fun t572 => (if t572 = true then (if x11_2 = 0 then (if bt563.2 = 0 then (some true) else (if x11_2 > 0 then (if 0 ≤ (wrap64 (x11_2 - 1)) then (if (wrap64 (x11_2 - 1)) < (x6_1.length : Int) then (some (bt563.2 == (rd x6_1 (wrap64 (x11_2 - 1))))) else (none)) else (none)) else (some false))) else (if x11_2 > 0 then (if 0 ≤ (wrap64 (x11_2 - 1)) then (if (wrap64 (x11_2 - 1)) < (x6_1.length : Int) then (some (bt563.2 == (rd x6_1 (wrap64 (x11_2 - 1))))) else (none)) else (none)) else (some false))) else (some false))) else (none)) else (none))) else (none)) else (none)) = some r := by first | (rw [hji84] at H; exact H) | (simp only [hji84] at H ⊢; exact H)
                  by_cases c85 : 0 ≤ (ji84)
                  · rw [if_pos c85] at H
                    have c85b0 := eq_true c85
                    have c85b1 : decide (0 ≤ (ji84)) = true := decide_eq_true c85
                    clear c85
                    by_cases c86 : (ji84) ≤ (x5_1.length : Int)
                    · rw [if_pos c86] at H
                      have c86b0 := eq_true c86
                      have c86b1 : decide ((ji84) ≤ (x5_1.length : Int)) = true := decide_eq_true c86
                      clear c86
                      obtain ⟨y558, hy558⟩ : ∃ y_ : List Int, y_ = (x5_1.take ((ji84) : Int).toNat) := ⟨_, rfl⟩
                      replace H : ((frame_Scan.f k2 y558).bind fun bt563 => (if 0 ≤ x11_2 then (if x11_2 ≤ (t526.length : Int) then ((plinthref03_SameAll.f k2 bt563.1 (t526.take (x11_2 : Int).toNat)).bind fun t572 => (if t572 = true then (if x11_2 = 0 then (if bt563.2 = 0 then (some true) else (if x11_2 > 0 then (if 0 ≤ (wrap64 (x11_2 - 1)) then (if (wrap64 (x11_2 - 1)) < (x6_1.length : Int) then (some (bt563.2 == (rd x6_1 (wrap64 (x11_2 - 1))))) else (none)) else (none)) else (some false))) else (if x11_2 > 0 then (if 0 ≤ (wrap64 (x11_2 - 1)) then (if (wrap64 (x11_2 - 1)) < (x6_1.length : Int) then (some (bt563.2 == (rd x6_1 (wrap64 (x11_2 - 1))))) else (none)) else (none)) else (some false))) else (some false))) else (none)) else (none))) = some r := by first | (rw [hy558]; with_reducible exact H) | (have H2_ := (Option.bind_some _ _).symm.trans H; rw [hy558]; with_reducible exact H2_) | (have H2_ := (Option.bind_some _ _).symm.trans H; with_reducible exact H2_) | with_reducible exact H | (rw [hy558]; exact H) | exact H
                      have Ny558 := Aside0.mk hy558
                      clear hy558
                      replace H := Option.bind_eq_some_iff.mp H
                      obtain ⟨⟨t563, t566⟩, A870, H⟩ := H
                      replace H : (if 0 ≤ x11_2 then (if x11_2 ≤ (t526.length : Int) then ((plinthref03_SameAll.f k2 t563 (t526.take (x11_2 : Int).toNat)).bind fun t572 => (if t572 = true then (if x11_2 = 0 then (if t566 = 0 then (some true) else (if x11_2 > 0 then (if 0 ≤ (wrap64 (x11_2 - 1)) then (if (wrap64 (x11_2 - 1)) < (x6_1.length : Int) then (some (t566 == (rd x6_1 (wrap64 (x11_2 - 1))))) else (none)) else (none)) else (some false))) else (if x11_2 > 0 then (if 0 ≤ (wrap64 (x11_2 - 1)) then (if (wrap64 (x11_2 - 1)) < (x6_1.length : Int) then (some (t566 == (rd x6_1 (wrap64 (x11_2 - 1))))) else (none)) else (none)) else (some false))) else (some false))) else (none)) else (none)) = some r := H
                      have A87 := Aside0.mk A870
                      clear A870
                      by_cases c88 : 0 ≤ x11_2
                      · rw [if_pos c88] at H
                        have c88b0 := eq_true c88
                        have c88b1 : decide (0 ≤ x11_2) = true := decide_eq_true c88
                        clear c88
                        by_cases c89 : x11_2 ≤ (t526.length : Int)
                        · rw [if_pos c89] at H
                          have c89b0 := eq_true c89
                          have c89b1 : decide (x11_2 ≤ (t526.length : Int)) = true := decide_eq_true c89
                          clear c89
                          obtain ⟨y567, hy567⟩ : ∃ y_ : List (S26), y_ = (t526.take (x11_2 : Int).toNat) := ⟨_, rfl⟩
                          replace H : ((plinthref03_SameAll.f k2 t563 y567).bind fun t572 => (if t572 = true then (if x11_2 = 0 then (if t566 = 0 then (some true) else (if x11_2 > 0 then (if 0 ≤ (wrap64 (x11_2 - 1)) then (if (wrap64 (x11_2 - 1)) < (x6_1.length : Int) then (some (t566 == (rd x6_1 (wrap64 (x11_2 - 1))))) else (none)) else (none)) else (some false))) else (if x11_2 > 0 then (if 0 ≤ (wrap64 (x11_2 - 1)) then (if (wrap64 (x11_2 - 1)) < (x6_1.length : Int) then (some (t566 == (rd x6_1 (wrap64 (x11_2 - 1))))) else (none)) else (none)) else (some false))) else (some false))) = some r := by first | (rw [hy567]; with_reducible exact H) | (have H2_ := (Option.bind_some _ _).symm.trans H; rw [hy567]; with_reducible exact H2_) | (have H2_ := (Option.bind_some _ _).symm.trans H; with_reducible exact H2_) | with_reducible exact H | (rw [hy567]; exact H) | exact H
                          have Ny567 := Aside0.mk hy567
                          clear hy567
                          replace H := Option.bind_eq_some_iff.mp H
                          obtain ⟨t572, A900, H⟩ := H
                          replace H : (if t572 = true then (if x11_2 = 0 then (if t566 = 0 then (some true) else (if x11_2 > 0 then (if 0 ≤ (wrap64 (x11_2 - 1)) then (if (wrap64 (x11_2 - 1)) < (x6_1.length : Int) then (some (t566 == (rd x6_1 (wrap64 (x11_2 - 1))))) else (none)) else (none)) else (some false))) else (if x11_2 > 0 then (if 0 ≤ (wrap64 (x11_2 - 1)) then (if (wrap64 (x11_2 - 1)) < (x6_1.length : Int) then (some (t566 == (rd x6_1 (wrap64 (x11_2 - 1))))) else (none)) else (none)) else (some false))) else (some false)) = some r := H
                          have A90 := Aside0.mk A900
                          clear A900
                          by_cases c91 : t572 = true
                          · subst c91
                            have H1 : (if x11_2 = 0 then (if t566 = 0 then (some true) else (if x11_2 > 0 then (if 0 ≤ (wrap64 (x11_2 - 1)) then (if (wrap64 (x11_2 - 1)) < (x6_1.length : Int) then (some (t566 == (rd x6_1 (wrap64 (x11_2 - 1))))) else (none)) else (none)) else (some false))) else (if x11_2 > 0 then (if 0 ≤ (wrap64 (x11_2 - 1)) then (if (wrap64 (x11_2 - 1)) < (x6_1.length : Int) then (some (t566 == (rd x6_1 (wrap64 (x11_2 - 1))))) else (none)) else (none)) else (some false))) = some r := by rw [if_pos rfl] at H; exact H
                            clear H
                            have H := H1
                            clear H1
                            by_cases c92 : x11_2 = 0
                            · rw [if_pos c92] at H
                              have c92b0 : (x11_2 == 0) = true := beq_iff_eq.mpr c92
                              have c92b1 : (x11_2 != 0) = false := bne_eq_false_iff_eq.mpr c92
                              clear c92
                              by_cases c93 : t566 = 0
                              · rw [if_pos c93] at H
                                have c93b0 : (t566 == 0) = true := beq_iff_eq.mpr c93
                                have c93b1 : (t566 != 0) = false := bne_eq_false_iff_eq.mpr c93
                                clear c93
                                obtain rfl := Option.some.inj H
                                have q94 : ((ji84) : Int) ≤ ((x5_1.length : Int) : Int) := of_decide_eq_true (by first | (with_reducible assumption) | assumption)
                                obtain ⟨i094, hi094, _, hsz94, _⟩ := info_parts info5
                                have hroom94 : x5_1.length ≤ co24 := (Kd.R_reads' HO_5.out).2.1
                                have hC94 : Kd.F (Kd.int .u8) _ _ Ao24 x5_1.length x5_1 := (Kd.V_at (base := w.heap.size) (Kd.R_V (Kd.R_apart' (Kd.R_apart' (HO_5.out) (Kd.N_typed HO_0.out) (by decide)) (Kd.R_typed HO_6.out) (by decide)))).2.2
                                have hcut94 := cut_to (P := Try.prog) 22 5 .i64 Try.underlying22 hi094 Ao24 x5_1.length co24 (ji84) (of_decide_eq_true (by first | (with_reducible assumption) | assumption)) q94 hroom94
                                have hr94 := Kd.F_take (m := ((ji84) : Int).toNat) hC94 (by omega)
                                have hy94 : y558.length = ((ji84) : Int).toNat := (by rw [Ny558.out, List.length_take]; omega)
                                rw [← Ny558.out] at hr94
                                rw [← hy94] at hcut94
                                have HO562 := Aside0.mk (show Kd.V (Kd.int .u8) 5 _ w.heap.size _ (.slice Ao24 y558.length co24) y558 from Kd.V_mk (by omega) hr94)
                                have HC562 := Aside0.mk (show y558.length ≤ co24 from by omega)
                                clear hr94 hC94 hroom94 hi094 hsz94
                                have KY94 := Aside0.mk hy94
                                clear hy94
                                replace q94 := eq_true q94
                                go_wp2_with (first | ((with_reducible refine gate_callee (f := 20) rfl ?_); refine goesL_ (some 66) rfl rfl Try.func20 (by kernel_rfl) rfl #[.slice Ao24 y558.length co24] rfl argA ?_; (with_reducible refine (frame_Scan.calls k2 _ _ y558 t563 t566 _ ?side1 ?side2 A87.out).mono ?_); (case side1 => exact upC ((Kd.V_reads' HO562.out).2.2)); (case side2 => exact (Kd.V_reads' HO562.out).2.1); rintro e w95 ⟨v564, rfl, ho0, hb⟩; refine ⟨_, rfl, ?_⟩; replace HO562 := Aside0.mk (Kd.V_below (upV HO562.out) hb); have HO565 := Aside0.mk (Kd.V_lower (Kd.V_mono (ok' := fun k_ => some k_ ≠ (.slice Ao23 t526.length co23 : Value).ownBlock ∧ some k_ ≠ (.slice Ao24 x5_1.length co24 : Value).ownBlock ∧ some k_ ≠ (u6 : Value).ownBlock) ho0 (fun k_ hk_ => ⟨(Kd.fresh' (Kd.N_lt (by (with_reducible repeat (first | apply Kd.N_alloc | apply Kd.N_drewN | apply Kd.N_drew)); exact HO_0.out)) k_ hk_), (Kd.fresh' (Kd.R_lt (upR HO_5.out)) k_ hk_), (Kd.fresh' (Kd.R_lt (upR HO_6.out)) k_ hk_)⟩)) (below_size (upB0 HB.out))); replace HO_0 := Aside0.mk (Kd.N_below (by (with_reducible repeat (first | apply Kd.N_alloc | apply Kd.N_drewN | apply Kd.N_drew)); exact HO_0.out) hb); replace HO_5 := Aside0.mk (Kd.R_below (upR HO_5.out) hb); replace HO_6 := Aside0.mk (Kd.R_below (upR HO_6.out) hb); replace HB := Aside0.mk (below_step (upB0 HB.out) hb); (try clear hb); (try clear hb2); (try clear hk); (try clear hi); (try clear ho0); have q96 : (x11_2 : Int) ≤ ((t526.length : Int) : Int) := of_decide_eq_true (by first | (with_reducible assumption) | assumption); obtain ⟨i096, hi096, _, hsz96, _⟩ := info_parts info26; have hroom96 : t526.length ≤ co23 := (Kd.N_reads' HO_0.out).2.1; have hC96 : Kd.F k26 _ _ Ao23 t526.length t526 := (Kd.V_at (base := w.heap.size) (Kd.N_V HO_0.out)).2.2; have hcut96 := cut_to (P := Try.prog) 39 26 .i64 Try.underlying39 hi096 Ao23 t526.length co23 x11_2 (of_decide_eq_true (by first | (with_reducible assumption) | assumption)) q96 hroom96; have hr96 := Kd.F_take (m := (x11_2 : Int).toNat) hC96 (by omega); have hy96 : y567.length = (x11_2 : Int).toNat := (by rw [Ny567.out, List.length_take]; omega); rw [← Ny567.out] at hr96; rw [← hy96] at hcut96; have HO571 := Aside0.mk (show Kd.V k26 26 _ w.heap.size _ (.slice Ao23 y567.length co23) y567 from Kd.V_mk (by omega) hr96); have HC571 := Aside0.mk (show y567.length ≤ co23 from by omega); clear hr96 hC96 hroom96 hi096 hsz96; have KY96 := Aside0.mk hy96; clear hy96; replace q96 := eq_true q96; obtain ⟨Ao97, co97, eo97⟩ := Kd.V_slice HO565.out; subst eo97) | ((with_reducible refine gate_callee (f := 22) rfl ?_); refine goesL_ (some 73) rfl rfl Try.func22 (by kernel_rfl) rfl #[.slice Ao97 t563.length co97, .slice Ao23 y567.length co23] rfl argA ?_; (with_reducible refine (plinthref03_SameAll.calls k2 _ _ t563 _ _ y567 true _ ?side1 ?side2 ?side3 ?side4 A90.out).mono ?_); (case side1 => exact upC ((Kd.V_reads' HO565.out).2.2)); (case side2 => exact (Kd.V_reads' HO565.out).2.1); (case side3 => exact upC ((Kd.V_reads' HO571.out).2.2)); (case side4 => exact (Kd.V_reads' HO571.out).2.1); rintro e w98 ⟨rfl, hb⟩; refine ⟨_, rfl, ?_⟩; replace HO_0 := Aside0.mk (Kd.N_below (by (with_reducible repeat (first | apply Kd.N_alloc | apply Kd.N_drewN | apply Kd.N_drew)); exact HO_0.out) hb); replace HO_5 := Aside0.mk (Kd.R_below (upR HO_5.out) hb); replace HO_6 := Aside0.mk (Kd.R_below (upR HO_6.out) hb); replace HO562 := Aside0.mk (Kd.V_below (upV HO562.out) hb); replace HO565 := Aside0.mk (Kd.V_below (upV HO565.out) hb); replace HO571 := Aside0.mk (Kd.V_below (upV HO571.out) hb); replace HB := Aside0.mk (below_step (upB0 HB.out) hb); (try clear hb); (try clear hb2); (try clear hk); (try clear hi)))
                                go_ret
                                exact ⟨by first | rfl | (simp [errW_none, errW_some] <;> rfl) | (simp only [← hji84]; first | rfl | (simp [errW_none, errW_some] <;> rfl)) | (simp [*, errW_none, errW_some] <;> rfl), upB0 HB.out⟩
                              · rw [if_neg c93] at H
                                have c93b0 : (t566 == 0) = false := beq_eq_false_iff_ne.mpr c93
                                have c93b1 : (t566 != 0) = true := bne_iff_ne.mpr c93
                                by_cases c99 : x11_2 > 0
                                · rw [if_pos c99] at H
                                  have c99b0 : decide (0 < x11_2) = true := decide_eq_true c99
                                  clear c99
                                  obtain ⟨ji100, hji100⟩ : ∃ j_ : Int, (wrap64 (x11_2 - 1)) = j_ := ⟨_, rfl⟩
                                  replace H : (if 0 ≤ (ji100) then (if (ji100) < (x6_1.length : Int) then (some (t566 == (rd x6_1 (ji100)))) else (none)) else (none)) = some r := by first | (rw [hji100] at H; exact H) | (simp only [hji100] at H ⊢; exact H)
                                  (try rw [hji100] at A87)
                                  (try rw [hji100] at A90)
                                  have hji100w : (IntKind.i64.wrap (x11_2 - 1)) = ji100 := (i64_w _).trans hji100
                                  by_cases c101 : 0 ≤ (ji100)
                                  · rw [if_pos c101] at H
                                    have c101b0 : decide (0 ≤ (ji100)) = true := decide_eq_true c101
                                    clear c101
                                    by_cases c102 : (ji100) < (x6_1.length : Int)
                                    · rw [if_pos c102] at H
                                      have c102b0 : decide ((ji100) < (x6_1.length : Int)) = true := decide_eq_true c102
                                      clear c102
                                      obtain rfl := Option.some.inj H
                                      have q103 : ((ji84) : Int) ≤ ((x5_1.length : Int) : Int) := of_decide_eq_true (by first | (with_reducible assumption) | assumption)
                                      obtain ⟨i0103, hi0103, _, hsz103, _⟩ := info_parts info5
                                      have hroom103 : x5_1.length ≤ co24 := (Kd.R_reads' HO_5.out).2.1
                                      have hC103 : Kd.F (Kd.int .u8) _ _ Ao24 x5_1.length x5_1 := (Kd.V_at (base := w.heap.size) (Kd.R_V (Kd.R_apart' (Kd.R_apart' (HO_5.out) (Kd.N_typed HO_0.out) (by decide)) (Kd.R_typed HO_6.out) (by decide)))).2.2
                                      have hcut103 := cut_to (P := Try.prog) 22 5 .i64 Try.underlying22 hi0103 Ao24 x5_1.length co24 (ji84) (of_decide_eq_true (by first | (with_reducible assumption) | assumption)) q103 hroom103
                                      have hr103 := Kd.F_take (m := ((ji84) : Int).toNat) hC103 (by omega)
                                      have hy103 : y558.length = ((ji84) : Int).toNat := (by rw [Ny558.out, List.length_take]; omega)
                                      rw [← Ny558.out] at hr103
                                      rw [← hy103] at hcut103
                                      have HO562 := Aside0.mk (show Kd.V (Kd.int .u8) 5 _ w.heap.size _ (.slice Ao24 y558.length co24) y558 from Kd.V_mk (by omega) hr103)
                                      have HC562 := Aside0.mk (show y558.length ≤ co24 from by omega)
                                      clear hr103 hC103 hroom103 hi0103 hsz103
                                      have KY103 := Aside0.mk hy103
                                      clear hy103
                                      replace q103 := eq_true q103
                                      go_wp2_with (first | ((with_reducible refine gate_callee (f := 20) rfl ?_); refine goesL_ (some 66) rfl rfl Try.func20 (by kernel_rfl) rfl #[.slice Ao24 y558.length co24] rfl argA ?_; (with_reducible refine (frame_Scan.calls k2 _ _ y558 t563 t566 _ ?side1 ?side2 A87.out).mono ?_); (case side1 => exact upC ((Kd.V_reads' HO562.out).2.2)); (case side2 => exact (Kd.V_reads' HO562.out).2.1); rintro e w104 ⟨v564, rfl, ho0, hb⟩; refine ⟨_, rfl, ?_⟩; replace HO562 := Aside0.mk (Kd.V_below (upV HO562.out) hb); have HO565 := Aside0.mk (Kd.V_lower (Kd.V_mono (ok' := fun k_ => some k_ ≠ (.slice Ao23 t526.length co23 : Value).ownBlock ∧ some k_ ≠ (.slice Ao24 x5_1.length co24 : Value).ownBlock ∧ some k_ ≠ (u6 : Value).ownBlock) ho0 (fun k_ hk_ => ⟨(Kd.fresh' (Kd.N_lt (by (with_reducible repeat (first | apply Kd.N_alloc | apply Kd.N_drewN | apply Kd.N_drew)); exact HO_0.out)) k_ hk_), (Kd.fresh' (Kd.R_lt (upR HO_5.out)) k_ hk_), (Kd.fresh' (Kd.R_lt (upR HO_6.out)) k_ hk_)⟩)) (below_size (upB0 HB.out))); replace HO_0 := Aside0.mk (Kd.N_below (by (with_reducible repeat (first | apply Kd.N_alloc | apply Kd.N_drewN | apply Kd.N_drew)); exact HO_0.out) hb); replace HO_5 := Aside0.mk (Kd.R_below (upR HO_5.out) hb); replace HO_6 := Aside0.mk (Kd.R_below (upR HO_6.out) hb); replace HB := Aside0.mk (below_step (upB0 HB.out) hb); (try clear hb); (try clear hb2); (try clear hk); (try clear hi); (try clear ho0); have q105 : (x11_2 : Int) ≤ ((t526.length : Int) : Int) := of_decide_eq_true (by first | (with_reducible assumption) | assumption); obtain ⟨i0105, hi0105, _, hsz105, _⟩ := info_parts info26; have hroom105 : t526.length ≤ co23 := (Kd.N_reads' HO_0.out).2.1; have hC105 : Kd.F k26 _ _ Ao23 t526.length t526 := (Kd.V_at (base := w.heap.size) (Kd.N_V HO_0.out)).2.2; have hcut105 := cut_to (P := Try.prog) 39 26 .i64 Try.underlying39 hi0105 Ao23 t526.length co23 x11_2 (of_decide_eq_true (by first | (with_reducible assumption) | assumption)) q105 hroom105; have hr105 := Kd.F_take (m := (x11_2 : Int).toNat) hC105 (by omega); have hy105 : y567.length = (x11_2 : Int).toNat := (by rw [Ny567.out, List.length_take]; omega); rw [← Ny567.out] at hr105; rw [← hy105] at hcut105; have HO571 := Aside0.mk (show Kd.V k26 26 _ w.heap.size _ (.slice Ao23 y567.length co23) y567 from Kd.V_mk (by omega) hr105); have HC571 := Aside0.mk (show y567.length ≤ co23 from by omega); clear hr105 hC105 hroom105 hi0105 hsz105; have KY105 := Aside0.mk hy105; clear hy105; replace q105 := eq_true q105; obtain ⟨Ao106, co106, eo106⟩ := Kd.V_slice HO565.out; subst eo106) | ((with_reducible refine gate_callee (f := 22) rfl ?_); refine goesL_ (some 73) rfl rfl Try.func22 (by kernel_rfl) rfl #[.slice Ao106 t563.length co106, .slice Ao23 y567.length co23] rfl argA ?_; (with_reducible refine (plinthref03_SameAll.calls k2 _ _ t563 _ _ y567 true _ ?side1 ?side2 ?side3 ?side4 A90.out).mono ?_); (case side1 => exact upC ((Kd.V_reads' HO565.out).2.2)); (case side2 => exact (Kd.V_reads' HO565.out).2.1); (case side3 => exact upC ((Kd.V_reads' HO571.out).2.2)); (case side4 => exact (Kd.V_reads' HO571.out).2.1); rintro e w107 ⟨rfl, hb⟩; refine ⟨_, rfl, ?_⟩; replace HO_0 := Aside0.mk (Kd.N_below (by (with_reducible repeat (first | apply Kd.N_alloc | apply Kd.N_drewN | apply Kd.N_drew)); exact HO_0.out) hb); replace HO_5 := Aside0.mk (Kd.R_below (upR HO_5.out) hb); replace HO_6 := Aside0.mk (Kd.R_below (upR HO_6.out) hb); replace HO562 := Aside0.mk (Kd.V_below (upV HO562.out) hb); replace HO565 := Aside0.mk (Kd.V_below (upV HO565.out) hb); replace HO571 := Aside0.mk (Kd.V_below (upV HO571.out) hb); replace HB := Aside0.mk (below_step (upB0 HB.out) hb); (try clear hb); (try clear hb2); (try clear hk); (try clear hi); obtain ⟨Ao108, co108, eo108⟩ := Kd.R_slice HO_6.out; subst eo108; have p573 : 0 ≤ ((ji100) : Int) := of_decide_eq_true (by first | (with_reducible assumption) | assumption); have q573 : (ji100) < (x6_1.length : Int) := of_decide_eq_true (by first | (with_reducible assumption) | assumption); obtain ⟨ad573, e573, hx573_0⟩ := Kd.at_int (Kd.R_reads' HO_6.out).2.2 (ji100) p573 q573; cases e573; replace p573 := eq_true p573; replace q573 := eq_true q573))
                                      go_ret
                                      exact ⟨by first | rfl | (simp [errW_none, errW_some] <;> rfl) | (simp only [← hji84, ← hji100]; first | rfl | (simp [errW_none, errW_some] <;> rfl)) | (simp [*, errW_none, errW_some] <;> rfl), upB0 HB.out⟩
                                    · rw [if_neg c102] at H
                                      exact absurd H (by simp)
                                  · rw [if_neg c101] at H
                                    exact absurd H (by simp)
                                · rw [if_neg c99] at H
                                  have c99b0 : decide (0 < x11_2) = false := decide_eq_false c99
                                  clear c99
                                  obtain rfl := Option.some.inj H
                                  have q109 : ((ji84) : Int) ≤ ((x5_1.length : Int) : Int) := of_decide_eq_true (by first | (with_reducible assumption) | assumption)
                                  obtain ⟨i0109, hi0109, _, hsz109, _⟩ := info_parts info5
                                  have hroom109 : x5_1.length ≤ co24 := (Kd.R_reads' HO_5.out).2.1
                                  have hC109 : Kd.F (Kd.int .u8) _ _ Ao24 x5_1.length x5_1 := (Kd.V_at (base := w.heap.size) (Kd.R_V (Kd.R_apart' (Kd.R_apart' (HO_5.out) (Kd.N_typed HO_0.out) (by decide)) (Kd.R_typed HO_6.out) (by decide)))).2.2
                                  have hcut109 := cut_to (P := Try.prog) 22 5 .i64 Try.underlying22 hi0109 Ao24 x5_1.length co24 (ji84) (of_decide_eq_true (by first | (with_reducible assumption) | assumption)) q109 hroom109
                                  have hr109 := Kd.F_take (m := ((ji84) : Int).toNat) hC109 (by omega)
                                  have hy109 : y558.length = ((ji84) : Int).toNat := (by rw [Ny558.out, List.length_take]; omega)
                                  rw [← Ny558.out] at hr109
                                  rw [← hy109] at hcut109
                                  have HO562 := Aside0.mk (show Kd.V (Kd.int .u8) 5 _ w.heap.size _ (.slice Ao24 y558.length co24) y558 from Kd.V_mk (by omega) hr109)
                                  have HC562 := Aside0.mk (show y558.length ≤ co24 from by omega)
                                  clear hr109 hC109 hroom109 hi0109 hsz109
                                  have KY109 := Aside0.mk hy109
                                  clear hy109
                                  replace q109 := eq_true q109
                                  go_wp2_with (first | ((with_reducible refine gate_callee (f := 20) rfl ?_); refine goesL_ (some 66) rfl rfl Try.func20 (by kernel_rfl) rfl #[.slice Ao24 y558.length co24] rfl argA ?_; (with_reducible refine (frame_Scan.calls k2 _ _ y558 t563 t566 _ ?side1 ?side2 A87.out).mono ?_); (case side1 => exact upC ((Kd.V_reads' HO562.out).2.2)); (case side2 => exact (Kd.V_reads' HO562.out).2.1); rintro e w110 ⟨v564, rfl, ho0, hb⟩; refine ⟨_, rfl, ?_⟩; replace HO562 := Aside0.mk (Kd.V_below (upV HO562.out) hb); have HO565 := Aside0.mk (Kd.V_lower (Kd.V_mono (ok' := fun k_ => some k_ ≠ (.slice Ao23 t526.length co23 : Value).ownBlock ∧ some k_ ≠ (.slice Ao24 x5_1.length co24 : Value).ownBlock ∧ some k_ ≠ (u6 : Value).ownBlock) ho0 (fun k_ hk_ => ⟨(Kd.fresh' (Kd.N_lt (by (with_reducible repeat (first | apply Kd.N_alloc | apply Kd.N_drewN | apply Kd.N_drew)); exact HO_0.out)) k_ hk_), (Kd.fresh' (Kd.R_lt (upR HO_5.out)) k_ hk_), (Kd.fresh' (Kd.R_lt (upR HO_6.out)) k_ hk_)⟩)) (below_size (upB0 HB.out))); replace HO_0 := Aside0.mk (Kd.N_below (by (with_reducible repeat (first | apply Kd.N_alloc | apply Kd.N_drewN | apply Kd.N_drew)); exact HO_0.out) hb); replace HO_5 := Aside0.mk (Kd.R_below (upR HO_5.out) hb); replace HO_6 := Aside0.mk (Kd.R_below (upR HO_6.out) hb); replace HB := Aside0.mk (below_step (upB0 HB.out) hb); (try clear hb); (try clear hb2); (try clear hk); (try clear hi); (try clear ho0); have q111 : (x11_2 : Int) ≤ ((t526.length : Int) : Int) := of_decide_eq_true (by first | (with_reducible assumption) | assumption); obtain ⟨i0111, hi0111, _, hsz111, _⟩ := info_parts info26; have hroom111 : t526.length ≤ co23 := (Kd.N_reads' HO_0.out).2.1; have hC111 : Kd.F k26 _ _ Ao23 t526.length t526 := (Kd.V_at (base := w.heap.size) (Kd.N_V HO_0.out)).2.2; have hcut111 := cut_to (P := Try.prog) 39 26 .i64 Try.underlying39 hi0111 Ao23 t526.length co23 x11_2 (of_decide_eq_true (by first | (with_reducible assumption) | assumption)) q111 hroom111; have hr111 := Kd.F_take (m := (x11_2 : Int).toNat) hC111 (by omega); have hy111 : y567.length = (x11_2 : Int).toNat := (by rw [Ny567.out, List.length_take]; omega); rw [← Ny567.out] at hr111; rw [← hy111] at hcut111; have HO571 := Aside0.mk (show Kd.V k26 26 _ w.heap.size _ (.slice Ao23 y567.length co23) y567 from Kd.V_mk (by omega) hr111); have HC571 := Aside0.mk (show y567.length ≤ co23 from by omega); clear hr111 hC111 hroom111 hi0111 hsz111; have KY111 := Aside0.mk hy111; clear hy111; replace q111 := eq_true q111; obtain ⟨Ao112, co112, eo112⟩ := Kd.V_slice HO565.out; subst eo112) | ((with_reducible refine gate_callee (f := 22) rfl ?_); refine goesL_ (some 73) rfl rfl Try.func22 (by kernel_rfl) rfl #[.slice Ao112 t563.length co112, .slice Ao23 y567.length co23] rfl argA ?_; (with_reducible refine (plinthref03_SameAll.calls k2 _ _ t563 _ _ y567 true _ ?side1 ?side2 ?side3 ?side4 A90.out).mono ?_); (case side1 => exact upC ((Kd.V_reads' HO565.out).2.2)); (case side2 => exact (Kd.V_reads' HO565.out).2.1); (case side3 => exact upC ((Kd.V_reads' HO571.out).2.2)); (case side4 => exact (Kd.V_reads' HO571.out).2.1); rintro e w113 ⟨rfl, hb⟩; refine ⟨_, rfl, ?_⟩; replace HO_0 := Aside0.mk (Kd.N_below (by (with_reducible repeat (first | apply Kd.N_alloc | apply Kd.N_drewN | apply Kd.N_drew)); exact HO_0.out) hb); replace HO_5 := Aside0.mk (Kd.R_below (upR HO_5.out) hb); replace HO_6 := Aside0.mk (Kd.R_below (upR HO_6.out) hb); replace HO562 := Aside0.mk (Kd.V_below (upV HO562.out) hb); replace HO565 := Aside0.mk (Kd.V_below (upV HO565.out) hb); replace HO571 := Aside0.mk (Kd.V_below (upV HO571.out) hb); replace HB := Aside0.mk (below_step (upB0 HB.out) hb); (try clear hb); (try clear hb2); (try clear hk); (try clear hi)))
                                  go_ret
                                  exact ⟨by first | rfl | (simp [errW_none, errW_some] <;> rfl) | (simp only [← hji84]; first | rfl | (simp [errW_none, errW_some] <;> rfl)) | (simp [*, errW_none, errW_some] <;> rfl), upB0 HB.out⟩
                            · rw [if_neg c92] at H
                              have c92b0 : (x11_2 == 0) = false := beq_eq_false_iff_ne.mpr c92
                              have c92b1 : (x11_2 != 0) = true := bne_iff_ne.mpr c92
                              by_cases c114 : x11_2 > 0
                              · rw [if_pos c114] at H
                                have c114b0 : decide (0 < x11_2) = true := decide_eq_true c114
                                clear c114
                                obtain ⟨ji115, hji115⟩ : ∃ j_ : Int, (wrap64 (x11_2 - 1)) = j_ := ⟨_, rfl⟩
                                replace H : (if 0 ≤ (ji115) then (if (ji115) < (x6_1.length : Int) then (some (t566 == (rd x6_1 (ji115)))) else (none)) else (none)) = some r := by first | (rw [hji115] at H; exact H) | (simp only [hji115] at H ⊢; exact H)
                                (try rw [hji115] at A87)
                                (try rw [hji115] at A90)
                                have hji115w : (IntKind.i64.wrap (x11_2 - 1)) = ji115 := (i64_w _).trans hji115
                                by_cases c116 : 0 ≤ (ji115)
                                · rw [if_pos c116] at H
                                  have c116b0 : decide (0 ≤ (ji115)) = true := decide_eq_true c116
                                  clear c116
                                  by_cases c117 : (ji115) < (x6_1.length : Int)
                                  · rw [if_pos c117] at H
                                    have c117b0 : decide ((ji115) < (x6_1.length : Int)) = true := decide_eq_true c117
                                    clear c117
                                    obtain rfl := Option.some.inj H
                                    have q118 : ((ji84) : Int) ≤ ((x5_1.length : Int) : Int) := of_decide_eq_true (by first | (with_reducible assumption) | assumption)
                                    obtain ⟨i0118, hi0118, _, hsz118, _⟩ := info_parts info5
                                    have hroom118 : x5_1.length ≤ co24 := (Kd.R_reads' HO_5.out).2.1
                                    have hC118 : Kd.F (Kd.int .u8) _ _ Ao24 x5_1.length x5_1 := (Kd.V_at (base := w.heap.size) (Kd.R_V (Kd.R_apart' (Kd.R_apart' (HO_5.out) (Kd.N_typed HO_0.out) (by decide)) (Kd.R_typed HO_6.out) (by decide)))).2.2
                                    have hcut118 := cut_to (P := Try.prog) 22 5 .i64 Try.underlying22 hi0118 Ao24 x5_1.length co24 (ji84) (of_decide_eq_true (by first | (with_reducible assumption) | assumption)) q118 hroom118
                                    have hr118 := Kd.F_take (m := ((ji84) : Int).toNat) hC118 (by omega)
                                    have hy118 : y558.length = ((ji84) : Int).toNat := (by rw [Ny558.out, List.length_take]; omega)
                                    rw [← Ny558.out] at hr118
                                    rw [← hy118] at hcut118
                                    have HO562 := Aside0.mk (show Kd.V (Kd.int .u8) 5 _ w.heap.size _ (.slice Ao24 y558.length co24) y558 from Kd.V_mk (by omega) hr118)
                                    have HC562 := Aside0.mk (show y558.length ≤ co24 from by omega)
                                    clear hr118 hC118 hroom118 hi0118 hsz118
                                    have KY118 := Aside0.mk hy118
                                    clear hy118
                                    replace q118 := eq_true q118
                                    go_wp2_with (first | ((with_reducible refine gate_callee (f := 20) rfl ?_); refine goesL_ (some 66) rfl rfl Try.func20 (by kernel_rfl) rfl #[.slice Ao24 y558.length co24] rfl argA ?_; (with_reducible refine (frame_Scan.calls k2 _ _ y558 t563 t566 _ ?side1 ?side2 A87.out).mono ?_); (case side1 => exact upC ((Kd.V_reads' HO562.out).2.2)); (case side2 => exact (Kd.V_reads' HO562.out).2.1); rintro e w119 ⟨v564, rfl, ho0, hb⟩; refine ⟨_, rfl, ?_⟩; replace HO562 := Aside0.mk (Kd.V_below (upV HO562.out) hb); have HO565 := Aside0.mk (Kd.V_lower (Kd.V_mono (ok' := fun k_ => some k_ ≠ (.slice Ao23 t526.length co23 : Value).ownBlock ∧ some k_ ≠ (.slice Ao24 x5_1.length co24 : Value).ownBlock ∧ some k_ ≠ (u6 : Value).ownBlock) ho0 (fun k_ hk_ => ⟨(Kd.fresh' (Kd.N_lt (by (with_reducible repeat (first | apply Kd.N_alloc | apply Kd.N_drewN | apply Kd.N_drew)); exact HO_0.out)) k_ hk_), (Kd.fresh' (Kd.R_lt (upR HO_5.out)) k_ hk_), (Kd.fresh' (Kd.R_lt (upR HO_6.out)) k_ hk_)⟩)) (below_size (upB0 HB.out))); replace HO_0 := Aside0.mk (Kd.N_below (by (with_reducible repeat (first | apply Kd.N_alloc | apply Kd.N_drewN | apply Kd.N_drew)); exact HO_0.out) hb); replace HO_5 := Aside0.mk (Kd.R_below (upR HO_5.out) hb); replace HO_6 := Aside0.mk (Kd.R_below (upR HO_6.out) hb); replace HB := Aside0.mk (below_step (upB0 HB.out) hb); (try clear hb); (try clear hb2); (try clear hk); (try clear hi); (try clear ho0); have q120 : (x11_2 : Int) ≤ ((t526.length : Int) : Int) := of_decide_eq_true (by first | (with_reducible assumption) | assumption); obtain ⟨i0120, hi0120, _, hsz120, _⟩ := info_parts info26; have hroom120 : t526.length ≤ co23 := (Kd.N_reads' HO_0.out).2.1; have hC120 : Kd.F k26 _ _ Ao23 t526.length t526 := (Kd.V_at (base := w.heap.size) (Kd.N_V HO_0.out)).2.2; have hcut120 := cut_to (P := Try.prog) 39 26 .i64 Try.underlying39 hi0120 Ao23 t526.length co23 x11_2 (of_decide_eq_true (by first | (with_reducible assumption) | assumption)) q120 hroom120; have hr120 := Kd.F_take (m := (x11_2 : Int).toNat) hC120 (by omega); have hy120 : y567.length = (x11_2 : Int).toNat := (by rw [Ny567.out, List.length_take]; omega); rw [← Ny567.out] at hr120; rw [← hy120] at hcut120; have HO571 := Aside0.mk (show Kd.V k26 26 _ w.heap.size _ (.slice Ao23 y567.length co23) y567 from Kd.V_mk (by omega) hr120); have HC571 := Aside0.mk (show y567.length ≤ co23 from by omega); clear hr120 hC120 hroom120 hi0120 hsz120; have KY120 := Aside0.mk hy120; clear hy120; replace q120 := eq_true q120; obtain ⟨Ao121, co121, eo121⟩ := Kd.V_slice HO565.out; subst eo121) | ((with_reducible refine gate_callee (f := 22) rfl ?_); refine goesL_ (some 73) rfl rfl Try.func22 (by kernel_rfl) rfl #[.slice Ao121 t563.length co121, .slice Ao23 y567.length co23] rfl argA ?_; (with_reducible refine (plinthref03_SameAll.calls k2 _ _ t563 _ _ y567 true _ ?side1 ?side2 ?side3 ?side4 A90.out).mono ?_); (case side1 => exact upC ((Kd.V_reads' HO565.out).2.2)); (case side2 => exact (Kd.V_reads' HO565.out).2.1); (case side3 => exact upC ((Kd.V_reads' HO571.out).2.2)); (case side4 => exact (Kd.V_reads' HO571.out).2.1); rintro e w122 ⟨rfl, hb⟩; refine ⟨_, rfl, ?_⟩; replace HO_0 := Aside0.mk (Kd.N_below (by (with_reducible repeat (first | apply Kd.N_alloc | apply Kd.N_drewN | apply Kd.N_drew)); exact HO_0.out) hb); replace HO_5 := Aside0.mk (Kd.R_below (upR HO_5.out) hb); replace HO_6 := Aside0.mk (Kd.R_below (upR HO_6.out) hb); replace HO562 := Aside0.mk (Kd.V_below (upV HO562.out) hb); replace HO565 := Aside0.mk (Kd.V_below (upV HO565.out) hb); replace HO571 := Aside0.mk (Kd.V_below (upV HO571.out) hb); replace HB := Aside0.mk (below_step (upB0 HB.out) hb); (try clear hb); (try clear hb2); (try clear hk); (try clear hi); obtain ⟨Ao123, co123, eo123⟩ := Kd.R_slice HO_6.out; subst eo123; have p574 : 0 ≤ ((ji115) : Int) := of_decide_eq_true (by first | (with_reducible assumption) | assumption); have q574 : (ji115) < (x6_1.length : Int) := of_decide_eq_true (by first | (with_reducible assumption) | assumption); obtain ⟨ad574, e574, hx574_0⟩ := Kd.at_int (Kd.R_reads' HO_6.out).2.2 (ji115) p574 q574; cases e574; replace p574 := eq_true p574; replace q574 := eq_true q574))
                                    go_ret
                                    exact ⟨by first | rfl | (simp [errW_none, errW_some] <;> rfl) | (simp only [← hji84, ← hji115]; first | rfl | (simp [errW_none, errW_some] <;> rfl)) | (simp [*, errW_none, errW_some] <;> rfl), upB0 HB.out⟩
                                  · rw [if_neg c117] at H
                                    exact absurd H (by simp)
                                · rw [if_neg c116] at H
                                  exact absurd H (by simp)
                              · rw [if_neg c114] at H
                                have c114b0 : decide (0 < x11_2) = false := decide_eq_false c114
                                clear c114
                                obtain rfl := Option.some.inj H
                                have q124 : ((ji84) : Int) ≤ ((x5_1.length : Int) : Int) := of_decide_eq_true (by first | (with_reducible assumption) | assumption)
                                obtain ⟨i0124, hi0124, _, hsz124, _⟩ := info_parts info5
                                have hroom124 : x5_1.length ≤ co24 := (Kd.R_reads' HO_5.out).2.1
                                have hC124 : Kd.F (Kd.int .u8) _ _ Ao24 x5_1.length x5_1 := (Kd.V_at (base := w.heap.size) (Kd.R_V (Kd.R_apart' (Kd.R_apart' (HO_5.out) (Kd.N_typed HO_0.out) (by decide)) (Kd.R_typed HO_6.out) (by decide)))).2.2
                                have hcut124 := cut_to (P := Try.prog) 22 5 .i64 Try.underlying22 hi0124 Ao24 x5_1.length co24 (ji84) (of_decide_eq_true (by first | (with_reducible assumption) | assumption)) q124 hroom124
                                have hr124 := Kd.F_take (m := ((ji84) : Int).toNat) hC124 (by omega)
                                have hy124 : y558.length = ((ji84) : Int).toNat := (by rw [Ny558.out, List.length_take]; omega)
                                rw [← Ny558.out] at hr124
                                rw [← hy124] at hcut124
                                have HO562 := Aside0.mk (show Kd.V (Kd.int .u8) 5 _ w.heap.size _ (.slice Ao24 y558.length co24) y558 from Kd.V_mk (by omega) hr124)
                                have HC562 := Aside0.mk (show y558.length ≤ co24 from by omega)
                                clear hr124 hC124 hroom124 hi0124 hsz124
                                have KY124 := Aside0.mk hy124
                                clear hy124
                                replace q124 := eq_true q124
                                go_wp2_with (first | ((with_reducible refine gate_callee (f := 20) rfl ?_); refine goesL_ (some 66) rfl rfl Try.func20 (by kernel_rfl) rfl #[.slice Ao24 y558.length co24] rfl argA ?_; (with_reducible refine (frame_Scan.calls k2 _ _ y558 t563 t566 _ ?side1 ?side2 A87.out).mono ?_); (case side1 => exact upC ((Kd.V_reads' HO562.out).2.2)); (case side2 => exact (Kd.V_reads' HO562.out).2.1); rintro e w125 ⟨v564, rfl, ho0, hb⟩; refine ⟨_, rfl, ?_⟩; replace HO562 := Aside0.mk (Kd.V_below (upV HO562.out) hb); have HO565 := Aside0.mk (Kd.V_lower (Kd.V_mono (ok' := fun k_ => some k_ ≠ (.slice Ao23 t526.length co23 : Value).ownBlock ∧ some k_ ≠ (.slice Ao24 x5_1.length co24 : Value).ownBlock ∧ some k_ ≠ (u6 : Value).ownBlock) ho0 (fun k_ hk_ => ⟨(Kd.fresh' (Kd.N_lt (by (with_reducible repeat (first | apply Kd.N_alloc | apply Kd.N_drewN | apply Kd.N_drew)); exact HO_0.out)) k_ hk_), (Kd.fresh' (Kd.R_lt (upR HO_5.out)) k_ hk_), (Kd.fresh' (Kd.R_lt (upR HO_6.out)) k_ hk_)⟩)) (below_size (upB0 HB.out))); replace HO_0 := Aside0.mk (Kd.N_below (by (with_reducible repeat (first | apply Kd.N_alloc | apply Kd.N_drewN | apply Kd.N_drew)); exact HO_0.out) hb); replace HO_5 := Aside0.mk (Kd.R_below (upR HO_5.out) hb); replace HO_6 := Aside0.mk (Kd.R_below (upR HO_6.out) hb); replace HB := Aside0.mk (below_step (upB0 HB.out) hb); (try clear hb); (try clear hb2); (try clear hk); (try clear hi); (try clear ho0); have q126 : (x11_2 : Int) ≤ ((t526.length : Int) : Int) := of_decide_eq_true (by first | (with_reducible assumption) | assumption); obtain ⟨i0126, hi0126, _, hsz126, _⟩ := info_parts info26; have hroom126 : t526.length ≤ co23 := (Kd.N_reads' HO_0.out).2.1; have hC126 : Kd.F k26 _ _ Ao23 t526.length t526 := (Kd.V_at (base := w.heap.size) (Kd.N_V HO_0.out)).2.2; have hcut126 := cut_to (P := Try.prog) 39 26 .i64 Try.underlying39 hi0126 Ao23 t526.length co23 x11_2 (of_decide_eq_true (by first | (with_reducible assumption) | assumption)) q126 hroom126; have hr126 := Kd.F_take (m := (x11_2 : Int).toNat) hC126 (by omega); have hy126 : y567.length = (x11_2 : Int).toNat := (by rw [Ny567.out, List.length_take]; omega); rw [← Ny567.out] at hr126; rw [← hy126] at hcut126; have HO571 := Aside0.mk (show Kd.V k26 26 _ w.heap.size _ (.slice Ao23 y567.length co23) y567 from Kd.V_mk (by omega) hr126); have HC571 := Aside0.mk (show y567.length ≤ co23 from by omega); clear hr126 hC126 hroom126 hi0126 hsz126; have KY126 := Aside0.mk hy126; clear hy126; replace q126 := eq_true q126; obtain ⟨Ao127, co127, eo127⟩ := Kd.V_slice HO565.out; subst eo127) | ((with_reducible refine gate_callee (f := 22) rfl ?_); refine goesL_ (some 73) rfl rfl Try.func22 (by kernel_rfl) rfl #[.slice Ao127 t563.length co127, .slice Ao23 y567.length co23] rfl argA ?_; (with_reducible refine (plinthref03_SameAll.calls k2 _ _ t563 _ _ y567 true _ ?side1 ?side2 ?side3 ?side4 A90.out).mono ?_); (case side1 => exact upC ((Kd.V_reads' HO565.out).2.2)); (case side2 => exact (Kd.V_reads' HO565.out).2.1); (case side3 => exact upC ((Kd.V_reads' HO571.out).2.2)); (case side4 => exact (Kd.V_reads' HO571.out).2.1); rintro e w128 ⟨rfl, hb⟩; refine ⟨_, rfl, ?_⟩; replace HO_0 := Aside0.mk (Kd.N_below (by (with_reducible repeat (first | apply Kd.N_alloc | apply Kd.N_drewN | apply Kd.N_drew)); exact HO_0.out) hb); replace HO_5 := Aside0.mk (Kd.R_below (upR HO_5.out) hb); replace HO_6 := Aside0.mk (Kd.R_below (upR HO_6.out) hb); replace HO562 := Aside0.mk (Kd.V_below (upV HO562.out) hb); replace HO565 := Aside0.mk (Kd.V_below (upV HO565.out) hb); replace HO571 := Aside0.mk (Kd.V_below (upV HO571.out) hb); replace HB := Aside0.mk (below_step (upB0 HB.out) hb); (try clear hb); (try clear hb2); (try clear hk); (try clear hi)))
                                go_ret
                                exact ⟨by first | rfl | (simp [errW_none, errW_some] <;> rfl) | (simp only [← hji84]; first | rfl | (simp [errW_none, errW_some] <;> rfl)) | (simp [*, errW_none, errW_some] <;> rfl), upB0 HB.out⟩
                          · replace c91 := Bool.eq_false_iff.mpr c91
                            subst c91
                            have H1 : (some false) = some r := by rw [if_neg (show ¬ (false = true) by decide)] at H; exact H
                            clear H
                            have H := H1
                            clear H1
                            obtain rfl := Option.some.inj H
                            have q129 : ((ji84) : Int) ≤ ((x5_1.length : Int) : Int) := of_decide_eq_true (by first | (with_reducible assumption) | assumption)
                            obtain ⟨i0129, hi0129, _, hsz129, _⟩ := info_parts info5
                            have hroom129 : x5_1.length ≤ co24 := (Kd.R_reads' HO_5.out).2.1
                            have hC129 : Kd.F (Kd.int .u8) _ _ Ao24 x5_1.length x5_1 := (Kd.V_at (base := w.heap.size) (Kd.R_V (Kd.R_apart' (Kd.R_apart' (HO_5.out) (Kd.N_typed HO_0.out) (by decide)) (Kd.R_typed HO_6.out) (by decide)))).2.2
                            have hcut129 := cut_to (P := Try.prog) 22 5 .i64 Try.underlying22 hi0129 Ao24 x5_1.length co24 (ji84) (of_decide_eq_true (by first | (with_reducible assumption) | assumption)) q129 hroom129
                            have hr129 := Kd.F_take (m := ((ji84) : Int).toNat) hC129 (by omega)
                            have hy129 : y558.length = ((ji84) : Int).toNat := (by rw [Ny558.out, List.length_take]; omega)
                            rw [← Ny558.out] at hr129
                            rw [← hy129] at hcut129
                            have HO562 := Aside0.mk (show Kd.V (Kd.int .u8) 5 _ w.heap.size _ (.slice Ao24 y558.length co24) y558 from Kd.V_mk (by omega) hr129)
                            have HC562 := Aside0.mk (show y558.length ≤ co24 from by omega)
                            clear hr129 hC129 hroom129 hi0129 hsz129
                            have KY129 := Aside0.mk hy129
                            clear hy129
                            replace q129 := eq_true q129
                            go_wp2_with (first | ((with_reducible refine gate_callee (f := 20) rfl ?_); refine goesL_ (some 66) rfl rfl Try.func20 (by kernel_rfl) rfl #[.slice Ao24 y558.length co24] rfl argA ?_; (with_reducible refine (frame_Scan.calls k2 _ _ y558 t563 t566 _ ?side1 ?side2 A87.out).mono ?_); (case side1 => exact upC ((Kd.V_reads' HO562.out).2.2)); (case side2 => exact (Kd.V_reads' HO562.out).2.1); rintro e w130 ⟨v564, rfl, ho0, hb⟩; refine ⟨_, rfl, ?_⟩; replace HO562 := Aside0.mk (Kd.V_below (upV HO562.out) hb); have HO565 := Aside0.mk (Kd.V_lower (Kd.V_mono (ok' := fun k_ => some k_ ≠ (.slice Ao23 t526.length co23 : Value).ownBlock ∧ some k_ ≠ (.slice Ao24 x5_1.length co24 : Value).ownBlock ∧ some k_ ≠ (u6 : Value).ownBlock) ho0 (fun k_ hk_ => ⟨(Kd.fresh' (Kd.N_lt (by (with_reducible repeat (first | apply Kd.N_alloc | apply Kd.N_drewN | apply Kd.N_drew)); exact HO_0.out)) k_ hk_), (Kd.fresh' (Kd.R_lt (upR HO_5.out)) k_ hk_), (Kd.fresh' (Kd.R_lt (upR HO_6.out)) k_ hk_)⟩)) (below_size (upB0 HB.out))); replace HO_0 := Aside0.mk (Kd.N_below (by (with_reducible repeat (first | apply Kd.N_alloc | apply Kd.N_drewN | apply Kd.N_drew)); exact HO_0.out) hb); replace HO_5 := Aside0.mk (Kd.R_below (upR HO_5.out) hb); replace HO_6 := Aside0.mk (Kd.R_below (upR HO_6.out) hb); replace HB := Aside0.mk (below_step (upB0 HB.out) hb); (try clear hb); (try clear hb2); (try clear hk); (try clear hi); (try clear ho0); have q131 : (x11_2 : Int) ≤ ((t526.length : Int) : Int) := of_decide_eq_true (by first | (with_reducible assumption) | assumption); obtain ⟨i0131, hi0131, _, hsz131, _⟩ := info_parts info26; have hroom131 : t526.length ≤ co23 := (Kd.N_reads' HO_0.out).2.1; have hC131 : Kd.F k26 _ _ Ao23 t526.length t526 := (Kd.V_at (base := w.heap.size) (Kd.N_V HO_0.out)).2.2; have hcut131 := cut_to (P := Try.prog) 39 26 .i64 Try.underlying39 hi0131 Ao23 t526.length co23 x11_2 (of_decide_eq_true (by first | (with_reducible assumption) | assumption)) q131 hroom131; have hr131 := Kd.F_take (m := (x11_2 : Int).toNat) hC131 (by omega); have hy131 : y567.length = (x11_2 : Int).toNat := (by rw [Ny567.out, List.length_take]; omega); rw [← Ny567.out] at hr131; rw [← hy131] at hcut131; have HO571 := Aside0.mk (show Kd.V k26 26 _ w.heap.size _ (.slice Ao23 y567.length co23) y567 from Kd.V_mk (by omega) hr131); have HC571 := Aside0.mk (show y567.length ≤ co23 from by omega); clear hr131 hC131 hroom131 hi0131 hsz131; have KY131 := Aside0.mk hy131; clear hy131; replace q131 := eq_true q131; obtain ⟨Ao132, co132, eo132⟩ := Kd.V_slice HO565.out; subst eo132) | ((with_reducible refine gate_callee (f := 22) rfl ?_); refine goesL_ (some 73) rfl rfl Try.func22 (by kernel_rfl) rfl #[.slice Ao132 t563.length co132, .slice Ao23 y567.length co23] rfl argA ?_; (with_reducible refine (plinthref03_SameAll.calls k2 _ _ t563 _ _ y567 false _ ?side1 ?side2 ?side3 ?side4 A90.out).mono ?_); (case side1 => exact upC ((Kd.V_reads' HO565.out).2.2)); (case side2 => exact (Kd.V_reads' HO565.out).2.1); (case side3 => exact upC ((Kd.V_reads' HO571.out).2.2)); (case side4 => exact (Kd.V_reads' HO571.out).2.1); rintro e w133 ⟨rfl, hb⟩; refine ⟨_, rfl, ?_⟩; replace HO_0 := Aside0.mk (Kd.N_below (by (with_reducible repeat (first | apply Kd.N_alloc | apply Kd.N_drewN | apply Kd.N_drew)); exact HO_0.out) hb); replace HO_5 := Aside0.mk (Kd.R_below (upR HO_5.out) hb); replace HO_6 := Aside0.mk (Kd.R_below (upR HO_6.out) hb); replace HO562 := Aside0.mk (Kd.V_below (upV HO562.out) hb); replace HO565 := Aside0.mk (Kd.V_below (upV HO565.out) hb); replace HO571 := Aside0.mk (Kd.V_below (upV HO571.out) hb); replace HB := Aside0.mk (below_step (upB0 HB.out) hb); (try clear hb); (try clear hb2); (try clear hk); (try clear hi)))
                            go_ret
                            exact ⟨by first | rfl | (simp [errW_none, errW_some] <;> rfl) | (simp only [← hji84]; first | rfl | (simp [errW_none, errW_some] <;> rfl)) | (simp [*, errW_none, errW_some] <;> rfl), upB0 HB.out⟩
                        · rw [if_neg c89] at H
                          exact absurd H (by simp)
                      · rw [if_neg c88] at H
                        exact absurd H (by simp)
                    · rw [if_neg c86] at H
                      exact absurd H (by simp)
                  · rw [if_neg c85] at H
                    exact absurd H (by simp)
  · replace c4 := Bool.eq_false_iff.mpr c4
    subst c4
    have H1 : (some false) = some r := by rw [if_neg (show ¬ (false = true) by decide)] at H; exact H
    clear H
    have H := H1
    clear H1
    obtain rfl := Option.some.inj H
    go_enter Try.func9, Try.ntmps9
    go_wp2_with (first | ((with_reducible refine gate_callee (f := 14) rfl ?_); refine goesL_ (some 14) rfl rfl Try.func14 (by kernel_rfl) rfl #[] rfl argA ?_; (with_reducible refine (plinthlaw03_awake.calls k  false _ A3.out).mono ?_); rintro e w134 ⟨rfl, hb⟩; refine ⟨_, rfl, ?_⟩; replace HB := Aside0.mk (below_step (upB0 HB.out) hb); (try clear hb); (try clear hb2); (try clear hk); (try clear hi)))
    go_ret
    exact ⟨by first | rfl | (simp [errW_none, errW_some] <;> rfl) | (simp [*, errW_none, errW_some] <;> rfl), upB0 HB.out⟩

end Go.Proofs.Ytcajcbeioilgmaa.F
