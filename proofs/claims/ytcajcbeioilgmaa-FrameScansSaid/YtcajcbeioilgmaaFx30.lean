-- Written by ext (this session's own program).
import Derived.Test.YtcajcbeioilgmaaFx0
import Derived.Test.YtcajcbeioilgmaaFx1
import Derived.Test.YtcajcbeioilgmaaFx15
import Derived.Test.YtcajcbeioilgmaaFx27
import Derived.Test.YtcajcbeioilgmaaFx28
import Derived.Test.YtcajcbeioilgmaaFx29
namespace Go.Proofs.Ytcajcbeioilgmaa.F
open Go.RowKit Go.Proofs.YtcajcbeioilgmaaW.PrintWords Go.Proofs.YtcajcbeioilgmaaW.PrintLast Go.Proofs.YtcajcbeioilgmaaW.PrintMore
attribute [local go_sem] max2_int min2_int max_two min_two max_three min_three max_four min_four   -- for this text's walks alone
set_option linter.unusedVariables false
set_option linter.unusedSimpArgs false

/-! ### plinthlaw03_FrameScans: function 8 -/
def plinthlaw03_FrameScans.f (k : Nat) (l0 : List Int) : Option (Bool) := (plinthlaw03_cut.f l0).bind fun t499 => ((frame_Scan.f k t499).bind fun bt502 => ((plinthref03_Scan.f k t499).bind fun bt506 => ((plinthref03_SameAll.f k bt502.1 bt506.1).bind fun t510 => (if t510 = true then (if bt502.2 = bt506.2 then ((plinthlaw03_awake.f k).bind fun t511 => (some t511)) else (some false)) else (some false)))))
theorem plinthlaw03_FrameScans.mono : ∀ a0 k, LeO (plinthlaw03_FrameScans.f k a0) (plinthlaw03_FrameScans.f (k + 1) a0) := by
  intro a0 k
  unfold plinthlaw03_FrameScans.f
  repeat' first
      | (with_reducible exact frame_Scan.mono _ _)
      | (with_reducible exact plinthlaw03_awake.mono _)
      | (with_reducible exact plinthref03_SameAll.mono _ _ _)
      | (with_reducible exact plinthref03_Scan.mono _ _)
      | (with_reducible exact LeO.refl _)
      | (with_reducible exact LeO.none _)
      | (with_reducible refine LeO.ite ?_ ?_)
      | (with_reducible refine LeO.bind ?_ (fun _ => ?_))
      | exact frame_Scan.mono _ _
      | exact plinthlaw03_awake.mono _
      | exact plinthref03_SameAll.mono _ _ _
      | exact plinthref03_Scan.mono _ _
      | exact LeO.none _
      | refine LeO.ite ?_ ?_
      | refine LeO.bind ?_ (fun _ => ?_)
set_option maxHeartbeats 8000000 in
set_option maxRecDepth 100000 in
theorem plinthlaw03_FrameScans.calls (k : Nat) (A0 : Option Addr) (c0 : Nat) (l0 : List Int) (r : Bool) (w : World) (hr0 : Kd.C (Kd.int .u8) w A0 l0.length l0) (hc0 : l0.length ≤ c0) (h : plinthlaw03_FrameScans.f k l0 = some r) :
    Calls Try.prog 8 #[.slice A0 l0.length c0] w fun e w' => e = .returned (.bool r) ∧ Below w.heap.size w w' := by
  have HR0 := Aside0.mk hr0
  have HC0 := Aside0.mk hc0
  clear hr0 hc0
  have HB := Aside0.mk (Below.refl w.heap.size w)
  have H : ((plinthlaw03_cut.f l0).bind fun t499 => ((frame_Scan.f k t499).bind fun bt502 => ((plinthref03_Scan.f k t499).bind fun bt506 => ((plinthref03_SameAll.f k bt502.1 bt506.1).bind fun t510 => (if t510 = true then (if bt502.2 = bt506.2 then ((plinthlaw03_awake.f k).bind fun t511 => (some t511)) else (some false)) else (some false)))))) = some r := h
  clear h
  replace H := Option.bind_eq_some_iff.mp H
  obtain ⟨t499, A20, H⟩ := H
  replace H : ((frame_Scan.f k t499).bind fun bt502 => ((plinthref03_Scan.f k t499).bind fun bt506 => ((plinthref03_SameAll.f k bt502.1 bt506.1).bind fun t510 => (if t510 = true then (if bt502.2 = bt506.2 then ((plinthlaw03_awake.f k).bind fun t511 => (some t511)) else (some false)) else (some false))))) = some r := H
  have A2 := Aside0.mk A20
  clear A20
  replace H := Option.bind_eq_some_iff.mp H
  obtain ⟨⟨t502, t505⟩, A30, H⟩ := H
  replace H : ((plinthref03_Scan.f k t499).bind fun bt506 => ((plinthref03_SameAll.f k t502 bt506.1).bind fun t510 => (if t510 = true then (if t505 = bt506.2 then ((plinthlaw03_awake.f k).bind fun t511 => (some t511)) else (some false)) else (some false)))) = some r := H
  have A3 := Aside0.mk A30
  clear A30
  replace H := Option.bind_eq_some_iff.mp H
  obtain ⟨⟨t506, t507⟩, A40, H⟩ := H
  replace H : ((plinthref03_SameAll.f k t502 t506).bind fun t510 => (if t510 = true then (if t505 = t507 then ((plinthlaw03_awake.f k).bind fun t511 => (some t511)) else (some false)) else (some false))) = some r := H
  have A4 := Aside0.mk A40
  clear A40
  replace H := Option.bind_eq_some_iff.mp H
  obtain ⟨t510, A50, H⟩ := H
  replace H : (if t510 = true then (if t505 = t507 then ((plinthlaw03_awake.f k).bind fun t511 => (some t511)) else (some false)) else (some false)) = some r := H
  have A5 := Aside0.mk A50
  clear A50
  by_cases c6 : t510 = true
  · subst c6
    have H1 : (if t505 = t507 then ((plinthlaw03_awake.f k).bind fun t511 => (some t511)) else (some false)) = some r := by rw [if_pos rfl] at H; exact H
    clear H
    have H := H1
    clear H1
    by_cases c7 : t505 = t507
    · rw [if_pos c7] at H
      have c7b0 : (t505 == t507) = true := beq_iff_eq.mpr c7
      have c7b1 : (t505 != t507) = false := bne_eq_false_iff_eq.mpr c7
      clear c7
      replace H := Option.bind_eq_some_iff.mp H
      obtain ⟨t511, A80, H⟩ := H
      replace H : (some t511) = some r := H
      have A8 := Aside0.mk A80
      clear A80
      obtain rfl := Option.some.inj H
      go_enter Try.func8, Try.ntmps8
      go_wp2_with (first | ((with_reducible refine gate_callee (f := 10) rfl ?_); refine goesL_ (some 8) rfl rfl Try.func10 (by kernel_rfl) rfl #[.slice A0 l0.length c0] rfl argA ?_; (with_reducible refine (plinthlaw03_cut.calls (fun k_ => k_ < w.heap.size) _ _ l0 t499 _ ?side1 A2.out).mono ?_); (case side1 => exact Kd.V_mk HC0.out (Kd.F_below (Kd.C_F (Kd.heap_int .u8) HR0.out) (upB0 HB.out))); rintro e w9 ⟨v500, rfl, ho0, hb⟩; refine ⟨_, rfl, ?_⟩; have HO501 := Aside0.mk (Kd.V_lower (Kd.V_mono (ok' := fun k_ => True) ho0 (fun k_ hk_ => trivial)) (below_size (upB0 HB.out))); replace HB := Aside0.mk (below_step (upB0 HB.out) hb); (try clear hb); (try clear hb2); (try clear hk); (try clear hi); (try clear ho0); obtain ⟨Ao10, co10, eo10⟩ := Kd.V_slice HO501.out; subst eo10) | ((with_reducible refine gate_callee (f := 20) rfl ?_); refine goesL_ (some 11) rfl rfl Try.func20 (by kernel_rfl) rfl #[.slice Ao10 t499.length co10] rfl argA ?_; (with_reducible refine (frame_Scan.calls k _ _ t499 t502 t505 _ ?side1 ?side2 A3.out).mono ?_); (case side1 => exact upC ((Kd.V_reads' HO501.out).2.2)); (case side2 => exact (Kd.V_reads' HO501.out).2.1); rintro e w11 ⟨v503, rfl, ho0, hb⟩; refine ⟨_, rfl, ?_⟩; replace HO501 := Aside0.mk (Kd.V_below (upV HO501.out) hb); have HO504 := Aside0.mk (Kd.V_lower (Kd.V_mono (ok' := fun k_ => True) ho0 (fun k_ hk_ => trivial)) (below_size (upB0 HB.out))); replace HB := Aside0.mk (below_step (upB0 HB.out) hb); (try clear hb); (try clear hb2); (try clear hk); (try clear hi); (try clear ho0)) | ((with_reducible refine gate_callee (f := 21) rfl ?_); refine goesL_ (some 16) rfl rfl Try.func21 (by kernel_rfl) rfl #[.slice Ao10 t499.length co10] rfl argA ?_; (with_reducible refine (plinthref03_Scan.calls k _ _ t499 t506 t507 _ ?side1 ?side2 A4.out).mono ?_); (case side1 => exact upC ((Kd.V_reads' HO501.out).2.2)); (case side2 => exact (Kd.V_reads' HO501.out).2.1); rintro e w12 ⟨v508, rfl, ho0, hb⟩; refine ⟨_, rfl, ?_⟩; replace HO501 := Aside0.mk (Kd.V_elder' (upV HO501.out) (Kd.S_base ho0) hb); replace HO504 := Aside0.mk (Kd.V_elder' (upV HO504.out) (Kd.S_base ho0) hb); have HO509 := Aside0.mk (Kd.S_lower ho0 (below_size (upB0 HB.out))); replace HB := Aside0.mk (below_step (upB0 HB.out) hb); (try clear hb); (try clear hb2); (try clear hk); (try clear hi); (try clear ho0); obtain ⟨Ao13, co13, eo13⟩ := Kd.V_slice HO504.out; subst eo13; obtain ⟨Ao14, co14, eo14⟩ := Kd.S_slice HO509.out; subst eo14) | ((with_reducible refine gate_callee (f := 22) rfl ?_); refine goesL_ (some 21) rfl rfl Try.func22 (by kernel_rfl) rfl #[.slice Ao13 t502.length co13, .slice Ao14 t506.length co14] rfl argA ?_; (with_reducible refine (plinthref03_SameAll.calls k _ _ t502 _ _ t506 true _ ?side1 ?side2 ?side3 ?side4 A5.out).mono ?_); (case side1 => exact upC ((Kd.V_reads' HO504.out).2.2)); (case side2 => exact (Kd.V_reads' HO504.out).2.1); (case side3 => exact upC ((Kd.S_reads' HO509.out).2.2)); (case side4 => exact (Kd.S_reads' HO509.out).2.1); rintro e w15 ⟨rfl, hb⟩; refine ⟨_, rfl, ?_⟩; replace HO501 := Aside0.mk (Kd.V_below (upV HO501.out) hb); replace HO504 := Aside0.mk (Kd.V_below (upV HO504.out) hb); replace HO509 := Aside0.mk (Kd.S_below (by (with_reducible repeat (first | apply Kd.S_alloc | apply Kd.S_drewN | apply Kd.S_drew)); exact HO509.out) hb); replace HB := Aside0.mk (below_step (upB0 HB.out) hb); (try clear hb); (try clear hb2); (try clear hk); (try clear hi)) | (go_at_call 14; (with_reducible refine (plinthlaw03_awake.calls k  t511 _ A8.out).mono ?_); rintro e w16 ⟨rfl, hb⟩; replace HO501 := Aside0.mk (Kd.V_below (upV HO501.out) hb); replace HO504 := Aside0.mk (Kd.V_below (upV HO504.out) hb); replace HO509 := Aside0.mk (Kd.S_below (by (with_reducible repeat (first | apply Kd.S_alloc | apply Kd.S_drewN | apply Kd.S_drew)); exact HO509.out) hb); replace HB := Aside0.mk (below_step (upB0 HB.out) hb); (try clear hb); (try clear hb2); (try clear hk); (try clear hi)))
      go_ret
      exact ⟨by first | rfl | (simp [errW_none, errW_some] <;> rfl) | (simp [*, errW_none, errW_some] <;> rfl), upB0 HB.out⟩
    · rw [if_neg c7] at H
      have c7b0 : (t505 == t507) = false := beq_eq_false_iff_ne.mpr c7
      have c7b1 : (t505 != t507) = true := bne_iff_ne.mpr c7
      obtain rfl := Option.some.inj H
      go_enter Try.func8, Try.ntmps8
      go_wp2_with (first | ((with_reducible refine gate_callee (f := 10) rfl ?_); refine goesL_ (some 8) rfl rfl Try.func10 (by kernel_rfl) rfl #[.slice A0 l0.length c0] rfl argA ?_; (with_reducible refine (plinthlaw03_cut.calls (fun k_ => k_ < w.heap.size) _ _ l0 t499 _ ?side1 A2.out).mono ?_); (case side1 => exact Kd.V_mk HC0.out (Kd.F_below (Kd.C_F (Kd.heap_int .u8) HR0.out) (upB0 HB.out))); rintro e w17 ⟨v500, rfl, ho0, hb⟩; refine ⟨_, rfl, ?_⟩; have HO501 := Aside0.mk (Kd.V_lower (Kd.V_mono (ok' := fun k_ => True) ho0 (fun k_ hk_ => trivial)) (below_size (upB0 HB.out))); replace HB := Aside0.mk (below_step (upB0 HB.out) hb); (try clear hb); (try clear hb2); (try clear hk); (try clear hi); (try clear ho0); obtain ⟨Ao18, co18, eo18⟩ := Kd.V_slice HO501.out; subst eo18) | ((with_reducible refine gate_callee (f := 20) rfl ?_); refine goesL_ (some 11) rfl rfl Try.func20 (by kernel_rfl) rfl #[.slice Ao18 t499.length co18] rfl argA ?_; (with_reducible refine (frame_Scan.calls k _ _ t499 t502 t505 _ ?side1 ?side2 A3.out).mono ?_); (case side1 => exact upC ((Kd.V_reads' HO501.out).2.2)); (case side2 => exact (Kd.V_reads' HO501.out).2.1); rintro e w19 ⟨v503, rfl, ho0, hb⟩; refine ⟨_, rfl, ?_⟩; replace HO501 := Aside0.mk (Kd.V_below (upV HO501.out) hb); have HO504 := Aside0.mk (Kd.V_lower (Kd.V_mono (ok' := fun k_ => True) ho0 (fun k_ hk_ => trivial)) (below_size (upB0 HB.out))); replace HB := Aside0.mk (below_step (upB0 HB.out) hb); (try clear hb); (try clear hb2); (try clear hk); (try clear hi); (try clear ho0)) | ((with_reducible refine gate_callee (f := 21) rfl ?_); refine goesL_ (some 16) rfl rfl Try.func21 (by kernel_rfl) rfl #[.slice Ao18 t499.length co18] rfl argA ?_; (with_reducible refine (plinthref03_Scan.calls k _ _ t499 t506 t507 _ ?side1 ?side2 A4.out).mono ?_); (case side1 => exact upC ((Kd.V_reads' HO501.out).2.2)); (case side2 => exact (Kd.V_reads' HO501.out).2.1); rintro e w20 ⟨v508, rfl, ho0, hb⟩; refine ⟨_, rfl, ?_⟩; replace HO501 := Aside0.mk (Kd.V_elder' (upV HO501.out) (Kd.S_base ho0) hb); replace HO504 := Aside0.mk (Kd.V_elder' (upV HO504.out) (Kd.S_base ho0) hb); have HO509 := Aside0.mk (Kd.S_lower ho0 (below_size (upB0 HB.out))); replace HB := Aside0.mk (below_step (upB0 HB.out) hb); (try clear hb); (try clear hb2); (try clear hk); (try clear hi); (try clear ho0); obtain ⟨Ao21, co21, eo21⟩ := Kd.V_slice HO504.out; subst eo21; obtain ⟨Ao22, co22, eo22⟩ := Kd.S_slice HO509.out; subst eo22) | ((with_reducible refine gate_callee (f := 22) rfl ?_); refine goesL_ (some 21) rfl rfl Try.func22 (by kernel_rfl) rfl #[.slice Ao21 t502.length co21, .slice Ao22 t506.length co22] rfl argA ?_; (with_reducible refine (plinthref03_SameAll.calls k _ _ t502 _ _ t506 true _ ?side1 ?side2 ?side3 ?side4 A5.out).mono ?_); (case side1 => exact upC ((Kd.V_reads' HO504.out).2.2)); (case side2 => exact (Kd.V_reads' HO504.out).2.1); (case side3 => exact upC ((Kd.S_reads' HO509.out).2.2)); (case side4 => exact (Kd.S_reads' HO509.out).2.1); rintro e w23 ⟨rfl, hb⟩; refine ⟨_, rfl, ?_⟩; replace HO501 := Aside0.mk (Kd.V_below (upV HO501.out) hb); replace HO504 := Aside0.mk (Kd.V_below (upV HO504.out) hb); replace HO509 := Aside0.mk (Kd.S_below (by (with_reducible repeat (first | apply Kd.S_alloc | apply Kd.S_drewN | apply Kd.S_drew)); exact HO509.out) hb); replace HB := Aside0.mk (below_step (upB0 HB.out) hb); (try clear hb); (try clear hb2); (try clear hk); (try clear hi)))
      go_ret
      exact ⟨by first | rfl | (simp [errW_none, errW_some] <;> rfl) | (simp [*, errW_none, errW_some] <;> rfl), upB0 HB.out⟩
  · replace c6 := Bool.eq_false_iff.mpr c6
    subst c6
    have H1 : (some false) = some r := by rw [if_neg (show ¬ (false = true) by decide)] at H; exact H
    clear H
    have H := H1
    clear H1
    obtain rfl := Option.some.inj H
    go_enter Try.func8, Try.ntmps8
    go_wp2_with (first | ((with_reducible refine gate_callee (f := 10) rfl ?_); refine goesL_ (some 8) rfl rfl Try.func10 (by kernel_rfl) rfl #[.slice A0 l0.length c0] rfl argA ?_; (with_reducible refine (plinthlaw03_cut.calls (fun k_ => k_ < w.heap.size) _ _ l0 t499 _ ?side1 A2.out).mono ?_); (case side1 => exact Kd.V_mk HC0.out (Kd.F_below (Kd.C_F (Kd.heap_int .u8) HR0.out) (upB0 HB.out))); rintro e w24 ⟨v500, rfl, ho0, hb⟩; refine ⟨_, rfl, ?_⟩; have HO501 := Aside0.mk (Kd.V_lower (Kd.V_mono (ok' := fun k_ => True) ho0 (fun k_ hk_ => trivial)) (below_size (upB0 HB.out))); replace HB := Aside0.mk (below_step (upB0 HB.out) hb); (try clear hb); (try clear hb2); (try clear hk); (try clear hi); (try clear ho0); obtain ⟨Ao25, co25, eo25⟩ := Kd.V_slice HO501.out; subst eo25) | ((with_reducible refine gate_callee (f := 20) rfl ?_); refine goesL_ (some 11) rfl rfl Try.func20 (by kernel_rfl) rfl #[.slice Ao25 t499.length co25] rfl argA ?_; (with_reducible refine (frame_Scan.calls k _ _ t499 t502 t505 _ ?side1 ?side2 A3.out).mono ?_); (case side1 => exact upC ((Kd.V_reads' HO501.out).2.2)); (case side2 => exact (Kd.V_reads' HO501.out).2.1); rintro e w26 ⟨v503, rfl, ho0, hb⟩; refine ⟨_, rfl, ?_⟩; replace HO501 := Aside0.mk (Kd.V_below (upV HO501.out) hb); have HO504 := Aside0.mk (Kd.V_lower (Kd.V_mono (ok' := fun k_ => True) ho0 (fun k_ hk_ => trivial)) (below_size (upB0 HB.out))); replace HB := Aside0.mk (below_step (upB0 HB.out) hb); (try clear hb); (try clear hb2); (try clear hk); (try clear hi); (try clear ho0)) | ((with_reducible refine gate_callee (f := 21) rfl ?_); refine goesL_ (some 16) rfl rfl Try.func21 (by kernel_rfl) rfl #[.slice Ao25 t499.length co25] rfl argA ?_; (with_reducible refine (plinthref03_Scan.calls k _ _ t499 t506 t507 _ ?side1 ?side2 A4.out).mono ?_); (case side1 => exact upC ((Kd.V_reads' HO501.out).2.2)); (case side2 => exact (Kd.V_reads' HO501.out).2.1); rintro e w27 ⟨v508, rfl, ho0, hb⟩; refine ⟨_, rfl, ?_⟩; replace HO501 := Aside0.mk (Kd.V_elder' (upV HO501.out) (Kd.S_base ho0) hb); replace HO504 := Aside0.mk (Kd.V_elder' (upV HO504.out) (Kd.S_base ho0) hb); have HO509 := Aside0.mk (Kd.S_lower ho0 (below_size (upB0 HB.out))); replace HB := Aside0.mk (below_step (upB0 HB.out) hb); (try clear hb); (try clear hb2); (try clear hk); (try clear hi); (try clear ho0); obtain ⟨Ao28, co28, eo28⟩ := Kd.V_slice HO504.out; subst eo28; obtain ⟨Ao29, co29, eo29⟩ := Kd.S_slice HO509.out; subst eo29) | ((with_reducible refine gate_callee (f := 22) rfl ?_); refine goesL_ (some 21) rfl rfl Try.func22 (by kernel_rfl) rfl #[.slice Ao28 t502.length co28, .slice Ao29 t506.length co29] rfl argA ?_; (with_reducible refine (plinthref03_SameAll.calls k _ _ t502 _ _ t506 false _ ?side1 ?side2 ?side3 ?side4 A5.out).mono ?_); (case side1 => exact upC ((Kd.V_reads' HO504.out).2.2)); (case side2 => exact (Kd.V_reads' HO504.out).2.1); (case side3 => exact upC ((Kd.S_reads' HO509.out).2.2)); (case side4 => exact (Kd.S_reads' HO509.out).2.1); rintro e w30 ⟨rfl, hb⟩; refine ⟨_, rfl, ?_⟩; replace HO501 := Aside0.mk (Kd.V_below (upV HO501.out) hb); replace HO504 := Aside0.mk (Kd.V_below (upV HO504.out) hb); replace HO509 := Aside0.mk (Kd.S_below (by (with_reducible repeat (first | apply Kd.S_alloc | apply Kd.S_drewN | apply Kd.S_drew)); exact HO509.out) hb); replace HB := Aside0.mk (below_step (upB0 HB.out) hb); (try clear hb); (try clear hb2); (try clear hk); (try clear hi)))
    go_ret
    exact ⟨by first | rfl | (simp [errW_none, errW_some] <;> rfl) | (simp [*, errW_none, errW_some] <;> rfl), upB0 HB.out⟩

/-- THE ONE PURE STATEMENT of plinthlaw03_FrameScans: yours. -/
def plinthlaw03_FrameScans.Pure : Prop := ∀ (l0 : List Int), l0.length ≤ maxLen → l0.length * 1 ≤ 140737488351232 → (∀ x ∈ l0, (Lit.int .u8 x).wf = true) → ∃ k, plinthlaw03_FrameScans.f k l0 = some true
theorem plinthlaw03_FrameScans.walk (P : plinthlaw03_FrameScans.Pure) (a0 : Option Addr) (len0 cap0 : Nat) (z0 : List Int) (w : World) (w0 : (a0 = none ∧ len0 = 0 ∧ cap0 = 0 ∧ z0 = []) ∨ ∃ x, a0 = some x ∧ len0 ≤ cap0 ∧ cap0 ≤ maxLen ∧ z0.length = cap0 ∧ (∀ i, i < z0.length → w.cell? (x.add i) = some (.int .u8 (z0.getD i 0))) ∧ ∀ n ∈ z0, (Lit.int .u8 n).wf = true) (y0 : len0 * 1 ≤ 140737488351232) :
    Calls Try.prog 8 #[.slice a0 len0 cap0] w fun e w' => e = .returned (.bool true) ∧ Below w.heap.size w w' := by
  obtain ⟨l0, rfl, hr0, hm0, hw0, hc0⟩ := ReadsInt.ofRowC w0
  obtain ⟨k, h⟩ := P l0 hm0 y0 hw0
  refine (plinthlaw03_FrameScans.calls k _ _ l0 true w (Kd.C_of_reads (d := (0 : Int)) (h1 := fun _ => rfl) hr0) hc0 h).mono ?_
  rintro e w' ⟨rfl, hd⟩
  exact ⟨rfl, hd⟩

end Go.Proofs.Ytcajcbeioilgmaa.F
