-- Written by ext (this session's own program).
import Derived.Test.YtcajcbeioilgmaaFx0
import Derived.Test.YtcajcbeioilgmaaFx3
import Derived.Test.YtcajcbeioilgmaaFx4
import Derived.Test.YtcajcbeioilgmaaFx7
import Derived.Test.YtcajcbeioilgmaaFx13
import Derived.Test.YtcajcbeioilgmaaFx14
namespace Go.Proofs.Ytcajcbeioilgmaa.F
open Go.RowKit Go.Proofs.YtcajcbeioilgmaaW.PrintWords Go.Proofs.YtcajcbeioilgmaaW.PrintLast Go.Proofs.YtcajcbeioilgmaaW.PrintMore
attribute [local go_sem] max2_int min2_int max_two min_two max_three min_three max_four min_four   -- for this text's walks alone
set_option linter.unusedVariables false
set_option linter.unusedSimpArgs false

/-! ### octets_PutText: function 29 -/
def octets_PutText.f (k : Nat) (l0 : List Int) (l1 : List Int) : Option (List Int × Int) := if (l1.length : Int) > 16777216 then (some (([] : List Int), 2)) else ((slices_Clone_byte_byte.f l0).bind fun t262 => ((octets_put.f k t262 (IntKind.u64.wrap ((l1.length : Int))) 4).bind fun t265 => (if t265.length + l1.length < 140737488355328 then (some ((t265 ++ l1), 0)) else (none))))
theorem octets_PutText.mono : ∀ a0 a1 k, LeO (octets_PutText.f k a0 a1) (octets_PutText.f (k + 1) a0 a1) := by
  intro a0 a1 k
  unfold octets_PutText.f
  repeat' first
      | (with_reducible exact octets_put.mono _ _ _ _)
      | (with_reducible exact LeO.refl _)
      | (with_reducible exact LeO.none _)
      | (with_reducible refine LeO.ite ?_ ?_)
      | (with_reducible refine LeO.bind ?_ (fun _ => ?_))
      | exact octets_put.mono _ _ _ _
      | exact LeO.none _
      | refine LeO.ite ?_ ?_
      | refine LeO.bind ?_ (fun _ => ?_)
set_option maxHeartbeats 8000000 in
set_option maxRecDepth 100000 in
theorem octets_PutText.calls (k : Nat) (A0 : Option Addr) (c0 : Nat) (l0 : List Int) (A1 : Option Addr) (c1 : Nat) (l1 : List Int) (r1 : List Int) (r2 : Int) (w : World) (hr0 : Kd.C (Kd.int .u8) w A0 l0.length l0) (hc0 : l0.length ≤ c0) (hr1 : Kd.C (Kd.int .u8) w A1 l1.length l1) (hc1 : l1.length ≤ c1) (h : octets_PutText.f k l0 l1 = some (r1, r2)) :
    Calls Try.prog 29 #[.slice A0 l0.length c0, .slice A1 l1.length c1] w fun e w' => ∃ v0_ : Value, e = .returned (.tuple #[v0_, .int .i64 r2]) ∧ Kd.R (Kd.int .u8) 5 w' w.heap.size (fun _ => True) v0_ r1 ∧ Below w.heap.size w w' := by
  have HR0 := Aside0.mk hr0
  have HC0 := Aside0.mk hc0
  clear hr0 hc0
  have HR1 := Aside0.mk hr1
  have HC1 := Aside0.mk hc1
  clear hr1 hc1
  have HB := Aside0.mk (Below.refl w.heap.size w)
  have H : (if (l1.length : Int) > 16777216 then (some (([] : List Int), 2)) else ((slices_Clone_byte_byte.f l0).bind fun t262 => ((octets_put.f k t262 (IntKind.u64.wrap ((l1.length : Int))) 4).bind fun t265 => (if t265.length + l1.length < 140737488355328 then (some ((t265 ++ l1), 0)) else (none))))) = some (r1, r2) := h
  clear h
  by_cases c3 : (l1.length : Int) > 16777216
  · rw [if_pos c3] at H
    have c3b0 : decide (16777216 < (l1.length : Int)) = true := decide_eq_true c3
    have c3b1 : decide (16777216 < l1.length) = true := decide_eq_true (by omega)
    clear c3
    simp only [Option.some.injEq, Prod.mk.injEq] at H
    obtain ⟨rfl, rfl⟩ := H
    go_enter Try.func29, Try.ntmps29
    go_wp2
    go_ret2
    exact ⟨_, by first | rfl | (simp [errW_none, errW_some] <;> rfl) | (simp [*, errW_none, errW_some] <;> rfl), by first | exact Kd.R_nil _ _ _ _ _ | exact Kd.N_nil _ _ _ _ _ | exact Kd.V_nil _ _ _ _ _ | exact Kd.Q_nil _ _ _ _ _ | exact Kd.S_nil _ _ _ _ _, upB0 HB.out⟩
  · rw [if_neg c3] at H
    have c3b0 : decide (16777216 < (l1.length : Int)) = false := decide_eq_false c3
    have c3b1 : decide (16777216 < l1.length) = false := decide_eq_false (by omega)
    clear c3
    replace H := Option.bind_eq_some_iff.mp H
    obtain ⟨t262, A40, H⟩ := H
    replace H : ((octets_put.f k t262 (IntKind.u64.wrap ((l1.length : Int))) 4).bind fun t265 => (if t265.length + l1.length < 140737488355328 then (some ((t265 ++ l1), 0)) else (none))) = some (r1, r2) := H
    have A4 := Aside0.mk A40
    clear A40
    replace H := Option.bind_eq_some_iff.mp H
    obtain ⟨t265, A50, H⟩ := H
    replace H : (if t265.length + l1.length < 140737488355328 then (some ((t265 ++ l1), 0)) else (none)) = some (r1, r2) := H
    have A5 := Aside0.mk A50
    clear A50
    by_cases c6 : t265.length + l1.length < 140737488355328
    · rw [if_pos c6] at H
      have LMc6 := Aside0.mk c6
      clear c6
      obtain ⟨y268, hy268⟩ : ∃ y_ : List Int, y_ = (t265 ++ l1) := ⟨_, rfl⟩
      replace H : (some (y268, 0)) = some (r1, r2) := by first | (rw [hy268]; with_reducible exact H) | (have H2_ := (Option.bind_some _ _).symm.trans H; rw [hy268]; with_reducible exact H2_) | (have H2_ := (Option.bind_some _ _).symm.trans H; with_reducible exact H2_) | with_reducible exact H | (rw [hy268]; exact H) | exact H
      have Ny268 := Aside0.mk hy268
      clear hy268
      simp only [Option.some.injEq, Prod.mk.injEq] at H
      obtain ⟨rfl, rfl⟩ := H
      go_enter Try.func29, Try.ntmps29
      go_wp2_with (first | ((with_reducible refine gate_callee (f := 39) rfl ?_); refine goesL_ (some 10) rfl rfl Try.func39 (by kernel_rfl) rfl #[.slice A0 l0.length c0] rfl argA ?_; (with_reducible refine (slices_Clone_byte_byte.calls _ _ l0 t262 _ ?side1 ?side2 A4.out).mono ?_); (case side1 => exact upC (HR0.out)); (case side2 => exact HC0.out); rintro e w7 ⟨v263, rfl, ho0, hb⟩; refine ⟨_, rfl, ?_⟩; have HO264 := Aside0.mk (Kd.R_lower ho0 (below_size (upB0 HB.out))); replace HB := Aside0.mk (below_step (upB0 HB.out) hb); (try clear hb); (try clear hb2); (try clear hk); (try clear hi); (try clear ho0); obtain ⟨Ao8, co8, eo8⟩ := Kd.R_slice HO264.out; subst eo8) | ((with_reducible refine gate_callee (f := 41) rfl ?_); refine goesL_ (some 14) rfl rfl Try.func41 (by kernel_rfl) rfl #[.slice Ao8 t262.length co8, .int .u64 (IntKind.u64.wrap ((l1.length : Int))), .int .i64 4] rfl argA ?_; (with_reducible refine (octets_put.calls k (fun k_ => some k_ = (.slice Ao8 t262.length co8 : Value).ownBlock) (.slice Ao8 t262.length co8) t262 (IntKind.u64.wrap ((l1.length : Int))) 4 t265 w _ ?side1 ?side2 A5.out).mono ?_); (case side1 => exact upB0 HB.out); (case side2 => exact Kd.R_tight rfl HO264.out); rintro e w9 ⟨v266, rfl, ho0, hb, hkp⟩; refine ⟨_, rfl, ?_⟩; have n0_ := Aside0.mk (Kd.R_mono (ok' := fun k_ => True) ho0 (fun k_ hk_ => trivial)); have n1_ := Aside0.mk (hb); clear HB; clear HO264; have HO267 := n0_; have HB := n1_; clear n0_ n1_; (try clear hb); (try clear hkp); (try clear ho0)) | ((with_reducible refine gate_builtin (b := .append) (xs := #[.tmp 14, .tmp 15]) rfl ?_); at_builtin; refine Kd.R_append_rows (Kd.int .u8) (w0 := w) w.heap.size rfl (.tmp 14) (.tmp 15) 22 5 (.int .u8 0) 1 rfl Try.underlying22 info5 rfl (by decide) (by omega) v266 t265 l1 _ _ _ (fun _ => True) (fun _ => False) rfl rfl ?aO ?aR (fun _ _ h => h) (fun _ h => h.elim) ?aF ?aB ?aS ?aL ?_; (case aR => exact upC ((Kd.C_below HR1.out HB.out))); (case aB => exact (upB0 HB.out)); (case aF => exact (fun _ _ => trivial)); (case aO => exact (upR HO267.out)); (case aS => exact (below_size (upB0 HB.out))); (case aL => have := LMc6.out; omega); intro v269 w10 ho hb hg hat; rw [← Ny268.out] at ho; have n0_ := Aside0.mk (hb); have n1_ := Aside0.mk (ho); clear HB; clear HO267; have HB := n0_; have HO270 := n1_; clear n0_ n1_; clear ho hb hg hat))
      go_ret2
      exact ⟨_, by first | rfl | (simp [errW_none, errW_some] <;> rfl) | (simp [*, errW_none, errW_some] <;> rfl), by refine upR ?_; exact HO270.out, upB0 HB.out⟩
    · rw [if_neg c6] at H
      exact absurd H (by simp)

/-! ### frame_Write: function 15 -/
def frame_Write.f (k : Nat) (a0_0 : Int) (a0_1 : Int) (l0_2 : List Int) : Option (List Int × Int) := (octets_Put.f k (([80, 76, a0_0, 0] : List Int)) a0_1 8).bind fun bt275 => ((octets_PutText.f k bt275.1 l0_2).bind fun bt279 => (if bt279.2 = 0 then ((crc_Seal.f k bt279.1).bind fun t283 => (some (t283, 0))) else (some (([] : List Int), bt279.2))))
theorem frame_Write.mono : ∀ a0 a1 a2 k, LeO (frame_Write.f k a0 a1 a2) (frame_Write.f (k + 1) a0 a1 a2) := by
  intro a0 a1 a2 k
  unfold frame_Write.f
  repeat' first
      | (with_reducible exact crc_Seal.mono _ _)
      | (with_reducible exact octets_Put.mono _ _ _ _)
      | (with_reducible exact octets_PutText.mono _ _ _)
      | (with_reducible exact LeO.refl _)
      | (with_reducible exact LeO.none _)
      | (with_reducible refine LeO.ite ?_ ?_)
      | (with_reducible refine LeO.bind ?_ (fun _ => ?_))
      | exact crc_Seal.mono _ _
      | exact octets_Put.mono _ _ _ _
      | exact octets_PutText.mono _ _ _
      | exact LeO.none _
      | refine LeO.ite ?_ ?_
      | refine LeO.bind ?_ (fun _ => ?_)
set_option maxHeartbeats 8000000 in
set_option maxRecDepth 100000 in
theorem frame_Write.calls (k : Nat) (a0_0 : Int) (a0_1 : Int) (A0_2 : Option Addr) (c0_2 : Nat) (l0_2 : List Int) (r1 : List Int) (r2 : Int) (w : World) (hr0_2 : Kd.C (Kd.int .u8) w A0_2 l0_2.length l0_2) (hc0_2 : l0_2.length ≤ c0_2) (h : frame_Write.f k a0_0 a0_1 l0_2 = some (r1, r2)) :
    Calls Try.prog 15 #[.agg #[.int .u8 a0_0, .int .u64 a0_1, .slice A0_2 l0_2.length c0_2]] w fun e w' => ∃ v0_ : Value, e = .returned (.tuple #[v0_, .int .i64 r2]) ∧ Kd.R (Kd.int .u8) 5 w' w.heap.size (fun _ => True) v0_ r1 ∧ Below w.heap.size w w' := by
  have hu26 := Try.underlying26
  have HR0_2 := Aside0.mk hr0_2
  have HC0_2 := Aside0.mk hc0_2
  clear hr0_2 hc0_2
  have HB := Aside0.mk (Below.refl w.heap.size w)
  have H : ((octets_Put.f k (([80, 76, a0_0, 0] : List Int)) a0_1 8).bind fun bt275 => ((octets_PutText.f k bt275.1 l0_2).bind fun bt279 => (if bt279.2 = 0 then ((crc_Seal.f k bt279.1).bind fun t283 => (some (t283, 0))) else (some (([] : List Int), bt279.2))))) = some (r1, r2) := h
  clear h
  obtain ⟨y272, hy272⟩ : ∃ y_ : List Int, y_ = (([80, 76, a0_0, 0] : List Int)) := ⟨_, rfl⟩
  replace H : ((octets_Put.f k y272 a0_1 8).bind fun bt275 => ((octets_PutText.f k bt275.1 l0_2).bind fun bt279 => (if bt279.2 = 0 then ((crc_Seal.f k bt279.1).bind fun t283 => (some (t283, 0))) else (some (([] : List Int), bt279.2))))) = some (r1, r2) := by first | (rw [hy272]; with_reducible exact H) | (have H2_ := (Option.bind_some _ _).symm.trans H; rw [hy272]; with_reducible exact H2_) | (have H2_ := (Option.bind_some _ _).symm.trans H; with_reducible exact H2_) | with_reducible exact H | (rw [hy272]; exact H) | exact H
  have Ny272 := Aside0.mk hy272
  clear hy272
  replace H := Option.bind_eq_some_iff.mp H
  obtain ⟨⟨t275, t276⟩, A20, H⟩ := H
  replace H : ((octets_PutText.f k t275 l0_2).bind fun bt279 => (if bt279.2 = 0 then ((crc_Seal.f k bt279.1).bind fun t283 => (some (t283, 0))) else (some (([] : List Int), bt279.2)))) = some (r1, r2) := H
  have A2 := Aside0.mk A20
  clear A20
  replace H := Option.bind_eq_some_iff.mp H
  obtain ⟨⟨t279, t280⟩, A30, H⟩ := H
  replace H : (if t280 = 0 then ((crc_Seal.f k t279).bind fun t283 => (some (t283, 0))) else (some (([] : List Int), t280))) = some (r1, r2) := H
  have A3 := Aside0.mk A30
  clear A30
  by_cases c4 : t280 = 0
  · rw [if_pos c4] at H
    have c4b0 : (t280 == 0) = true := beq_iff_eq.mpr c4
    have c4b1 : (t280 != 0) = false := bne_eq_false_iff_eq.mpr c4
    clear c4
    replace H := Option.bind_eq_some_iff.mp H
    obtain ⟨t283, A50, H⟩ := H
    replace H : (some (t283, 0)) = some (r1, r2) := H
    have A5 := Aside0.mk A50
    clear A50
    simp only [Option.some.injEq, Prod.mk.injEq] at H
    obtain ⟨rfl, rfl⟩ := H
    go_enter Try.func15, Try.ntmps15
    go_wp2_with (first | ((with_reducible refine gate_dst (N := 1) rfl ?_); refine box_event ?hg (N := 1) ?hd (cs := #[.int .u8 a0_0, .int .u64 a0_1, .slice A0_2 l0_2.length c0_2]) (t := 26) ?hr ?_; (case hd => rfl); (case hg => rfl); (case hr => first | (go_simp; done) | (go_simp; rfl)); intro gb271 hg w6 hbox hb; have BK271 := Aside0.mk (hbox); have GW271 := Aside0.mk ((by rw [hg]; exact (below_size (upB0 HB.out)) : w.heap.size ≤ gb271)); have GE271 := Aside0.mk ((by rw [hg]; exact (below_size (upB0 HB.out)) : w.heap.size ≤ gb271)); replace HB := Aside0.mk (below_step (upB0 HB.out) hb); clear hb hbox hg; obtain ⟨hcz7_0, hcz7_1, hcz7_2, hfz7_0, hfz7_1, hfz7_2⟩ := cells3 BK271.out) | ((with_reducible refine gate_dst (N := 10) rfl ?_); refine Kd.R_lit (Kd.int .u8) _ 5 ?hg (N := 10) ?hd (xs := ([80, 76, a0_0, 0] : List Int)) (inner := [.int .u8 80, .int .u8 76, .int .u8 a0_0, .int .u8 0]) (ok := fun _ => True) (okp := fun _ => True) ?hr ?hp (fun _ hk => hk) trivial (Below.refl _ _) (Nat.le_refl _) (by simp) ?_; (case hd => rfl); (case hg => rfl); (case hr => first | (go_simp; done) | (go_simp; rfl)); (case hp => exact (Reps.one (show Kd.M (Kd.int .u8) _ _ _ 80 [.int .u8 80] from rfl) (Reps.one (show Kd.M (Kd.int .u8) _ _ _ 76 [.int .u8 76] from rfl) (Reps.one (show Kd.M (Kd.int .u8) _ _ _ a0_0 [.int .u8 a0_0] from rfl) (Reps.one (show Kd.M (Kd.int .u8) _ _ _ 0 [.int .u8 0] from rfl) (Reps.none _ _)))))); intro v273 w8 ho9 hb hg_ hnew_; clear hg_ hnew_; (first | rw [← Ny272.out] at ho9 | (simp only [Int.reduceToNat] at ho9; rw [← Ny272.out] at ho9)); have HO274 := Aside0.mk (Kd.R_lower ho9 (below_size (upB1 HB.out GE271.out))); replace BK271 := Aside0.mk (blk_below (upK BK271.out) hb); replace HB := Aside0.mk (below_step (upB1 HB.out GE271.out) hb); clear hb ho9; obtain ⟨hcz10_0, hcz10_1, hcz10_2, hfz10_0, hfz10_1, hfz10_2⟩ := cells3 BK271.out; obtain ⟨Ao11, co11, eo11⟩ := Kd.R_slice HO274.out; subst eo11) | ((with_reducible refine gate_callee (f := 28) rfl ?_); refine goesL_ (some 13) rfl rfl Try.func28 (by kernel_rfl) rfl #[.slice Ao11 y272.length co11, .int .u64 a0_1, .int .i64 8] rfl argA ?_; (with_reducible refine (octets_Put.calls k _ _ y272 a0_1 8 t275 t276 _ ?side1 ?side2 A2.out).mono ?_); (case side1 => exact upC ((Kd.R_reads' HO274.out).2.2)); (case side2 => exact (Kd.R_reads' HO274.out).2.1); rintro e w12 ⟨v277, rfl, ho0, hb⟩; refine ⟨_, rfl, ?_⟩; have HO278 := Aside0.mk (Kd.R_lower (Kd.R_new' ho0 (Kd.R_lt (upR HO274.out))) (below_size (upB1 HB.out GE271.out))); replace HO274 := Aside0.mk (Kd.R_elder' (upR HO274.out) (Kd.R_base ho0) hb); replace BK271 := Aside0.mk (blk_below (upK BK271.out) hb); replace HB := Aside0.mk (below_step (upB1 HB.out GE271.out) hb); (try clear hb); (try clear hb2); (try clear hk); (try clear hi); (try clear ho0); obtain ⟨hcz13_0, hcz13_1, hcz13_2, hfz13_0, hfz13_1, hfz13_2⟩ := cells3 BK271.out; obtain ⟨Ao14, co14, eo14⟩ := Kd.R_slice HO278.out; subst eo14) | ((with_reducible refine gate_callee (f := 29) rfl ?_); refine goesL_ (some 20) rfl rfl Try.func29 (by kernel_rfl) rfl #[.slice Ao14 t275.length co14, .slice A0_2 l0_2.length c0_2] rfl argA ?_; (with_reducible refine (octets_PutText.calls k _ _ t275 _ _ l0_2 t279 t280 _ ?side1 ?side2 ?side3 ?side4 A3.out).mono ?_); (case side1 => exact upC ((Kd.R_reads' HO278.out).2.2)); (case side2 => exact (Kd.R_reads' HO278.out).2.1); (case side3 => exact upC ((Kd.C_below HR0_2.out HB.out))); (case side4 => exact HC0_2.out); rintro e w15 ⟨v281, rfl, ho0, hb⟩; refine ⟨_, rfl, ?_⟩; have HO282 := Aside0.mk (Kd.R_lower (Kd.R_new' (Kd.R_new' ho0 (Kd.R_lt (upR HO274.out))) (Kd.R_lt (upR HO278.out))) (below_size (upB1 HB.out GE271.out))); replace HO274 := Aside0.mk (Kd.R_elder' (upR HO274.out) (Kd.R_base ho0) hb); replace HO278 := Aside0.mk (Kd.R_elder' (upR HO278.out) (Kd.R_base ho0) hb); replace BK271 := Aside0.mk (blk_below (upK BK271.out) hb); replace HB := Aside0.mk (below_step (upB1 HB.out GE271.out) hb); (try clear hb); (try clear hb2); (try clear hk); (try clear hi); (try clear ho0); obtain ⟨Ao16, co16, eo16⟩ := Kd.R_slice HO282.out; subst eo16) | ((with_reducible refine gate_callee (f := 30) rfl ?_); refine goesL_ (some 27) rfl rfl Try.func30 (by kernel_rfl) rfl #[.slice Ao16 t279.length co16] rfl argA ?_; (with_reducible refine (crc_Seal.calls k (fun k_ => some k_ = (.slice Ao16 t279.length co16 : Value).ownBlock) _ _ t279 t283 _ ?side1 A5.out).mono ?_); (case side1 => exact Kd.R_V (Kd.R_tight rfl (Kd.R_types (HO282.out) BK271.out (by decide)))); rintro e w17 ⟨v284, rfl, ho0, hb⟩; refine ⟨_, rfl, ?_⟩; have HO285 := Aside0.mk (Kd.R_lower (Kd.R_new' (Kd.R_new' (Kd.R_new' (Kd.R_mono (ok' := fun k_ => True) ho0 (fun _ hk_ => trivial)) (Kd.R_lt (upR HO274.out))) (Kd.R_lt (upR HO278.out))) (Kd.R_lt (upR HO282.out))) (below_size (upB1 HB.out GE271.out))); replace HO274 := Aside0.mk (Kd.R_elder' (upR HO274.out) (Kd.R_base ho0) hb); replace HO278 := Aside0.mk (Kd.R_elder' (upR HO278.out) (Kd.R_base ho0) hb); replace HO282 := Aside0.mk (Kd.R_elder' (upR HO282.out) (Kd.R_base ho0) hb); replace BK271 := Aside0.mk (blk_below (upK BK271.out) hb); replace HB := Aside0.mk (below_step (upB1 HB.out GE271.out) hb); (try clear hb); (try clear hb2); (try clear hk); (try clear hi); (try clear ho0)))
    go_ret2
    exact ⟨_, by first | rfl | (simp [errW_none, errW_some] <;> rfl) | (simp [*, errW_none, errW_some] <;> rfl), by refine upR ?_; exact Kd.R_mono HO285.out (fun _ hk => trivial), upB1 HB.out GE271.out⟩
  · rw [if_neg c4] at H
    have c4b0 : (t280 == 0) = false := beq_eq_false_iff_ne.mpr c4
    have c4b1 : (t280 != 0) = true := bne_iff_ne.mpr c4
    simp only [Option.some.injEq, Prod.mk.injEq] at H
    obtain ⟨rfl, rfl⟩ := H
    go_enter Try.func15, Try.ntmps15
    go_wp2_with (first | ((with_reducible refine gate_dst (N := 1) rfl ?_); refine box_event ?hg (N := 1) ?hd (cs := #[.int .u8 a0_0, .int .u64 a0_1, .slice A0_2 l0_2.length c0_2]) (t := 26) ?hr ?_; (case hd => rfl); (case hg => rfl); (case hr => first | (go_simp; done) | (go_simp; rfl)); intro gb271 hg w18 hbox hb; have BK271 := Aside0.mk (hbox); have GW271 := Aside0.mk ((by rw [hg]; exact (below_size (upB0 HB.out)) : w.heap.size ≤ gb271)); have GE271 := Aside0.mk ((by rw [hg]; exact (below_size (upB0 HB.out)) : w.heap.size ≤ gb271)); replace HB := Aside0.mk (below_step (upB0 HB.out) hb); clear hb hbox hg; obtain ⟨hcz19_0, hcz19_1, hcz19_2, hfz19_0, hfz19_1, hfz19_2⟩ := cells3 BK271.out) | ((with_reducible refine gate_dst (N := 10) rfl ?_); refine Kd.R_lit (Kd.int .u8) _ 5 ?hg (N := 10) ?hd (xs := ([80, 76, a0_0, 0] : List Int)) (inner := [.int .u8 80, .int .u8 76, .int .u8 a0_0, .int .u8 0]) (ok := fun _ => True) (okp := fun _ => True) ?hr ?hp (fun _ hk => hk) trivial (Below.refl _ _) (Nat.le_refl _) (by simp) ?_; (case hd => rfl); (case hg => rfl); (case hr => first | (go_simp; done) | (go_simp; rfl)); (case hp => exact (Reps.one (show Kd.M (Kd.int .u8) _ _ _ 80 [.int .u8 80] from rfl) (Reps.one (show Kd.M (Kd.int .u8) _ _ _ 76 [.int .u8 76] from rfl) (Reps.one (show Kd.M (Kd.int .u8) _ _ _ a0_0 [.int .u8 a0_0] from rfl) (Reps.one (show Kd.M (Kd.int .u8) _ _ _ 0 [.int .u8 0] from rfl) (Reps.none _ _)))))); intro v273 w20 ho21 hb hg_ hnew_; clear hg_ hnew_; (first | rw [← Ny272.out] at ho21 | (simp only [Int.reduceToNat] at ho21; rw [← Ny272.out] at ho21)); have HO274 := Aside0.mk (Kd.R_lower ho21 (below_size (upB1 HB.out GE271.out))); replace BK271 := Aside0.mk (blk_below (upK BK271.out) hb); replace HB := Aside0.mk (below_step (upB1 HB.out GE271.out) hb); clear hb ho21; obtain ⟨hcz22_0, hcz22_1, hcz22_2, hfz22_0, hfz22_1, hfz22_2⟩ := cells3 BK271.out; obtain ⟨Ao23, co23, eo23⟩ := Kd.R_slice HO274.out; subst eo23) | ((with_reducible refine gate_callee (f := 28) rfl ?_); refine goesL_ (some 13) rfl rfl Try.func28 (by kernel_rfl) rfl #[.slice Ao23 y272.length co23, .int .u64 a0_1, .int .i64 8] rfl argA ?_; (with_reducible refine (octets_Put.calls k _ _ y272 a0_1 8 t275 t276 _ ?side1 ?side2 A2.out).mono ?_); (case side1 => exact upC ((Kd.R_reads' HO274.out).2.2)); (case side2 => exact (Kd.R_reads' HO274.out).2.1); rintro e w24 ⟨v277, rfl, ho0, hb⟩; refine ⟨_, rfl, ?_⟩; have HO278 := Aside0.mk (Kd.R_lower (Kd.R_new' ho0 (Kd.R_lt (upR HO274.out))) (below_size (upB1 HB.out GE271.out))); replace HO274 := Aside0.mk (Kd.R_elder' (upR HO274.out) (Kd.R_base ho0) hb); replace BK271 := Aside0.mk (blk_below (upK BK271.out) hb); replace HB := Aside0.mk (below_step (upB1 HB.out GE271.out) hb); (try clear hb); (try clear hb2); (try clear hk); (try clear hi); (try clear ho0); obtain ⟨hcz25_0, hcz25_1, hcz25_2, hfz25_0, hfz25_1, hfz25_2⟩ := cells3 BK271.out; obtain ⟨Ao26, co26, eo26⟩ := Kd.R_slice HO278.out; subst eo26) | ((with_reducible refine gate_callee (f := 29) rfl ?_); refine goesL_ (some 20) rfl rfl Try.func29 (by kernel_rfl) rfl #[.slice Ao26 t275.length co26, .slice A0_2 l0_2.length c0_2] rfl argA ?_; (with_reducible refine (octets_PutText.calls k _ _ t275 _ _ l0_2 t279 t280 _ ?side1 ?side2 ?side3 ?side4 A3.out).mono ?_); (case side1 => exact upC ((Kd.R_reads' HO278.out).2.2)); (case side2 => exact (Kd.R_reads' HO278.out).2.1); (case side3 => exact upC ((Kd.C_below HR0_2.out HB.out))); (case side4 => exact HC0_2.out); rintro e w27 ⟨v281, rfl, ho0, hb⟩; refine ⟨_, rfl, ?_⟩; have HO282 := Aside0.mk (Kd.R_lower (Kd.R_new' (Kd.R_new' ho0 (Kd.R_lt (upR HO274.out))) (Kd.R_lt (upR HO278.out))) (below_size (upB1 HB.out GE271.out))); replace HO274 := Aside0.mk (Kd.R_elder' (upR HO274.out) (Kd.R_base ho0) hb); replace HO278 := Aside0.mk (Kd.R_elder' (upR HO278.out) (Kd.R_base ho0) hb); replace BK271 := Aside0.mk (blk_below (upK BK271.out) hb); replace HB := Aside0.mk (below_step (upB1 HB.out GE271.out) hb); (try clear hb); (try clear hb2); (try clear hk); (try clear hi); (try clear ho0)))
    go_ret2
    exact ⟨_, by first | rfl | (simp [errW_none, errW_some] <;> rfl) | (simp [*, errW_none, errW_some] <;> rfl), by first | exact Kd.R_nil _ _ _ _ _ | exact Kd.N_nil _ _ _ _ _ | exact Kd.V_nil _ _ _ _ _ | exact Kd.Q_nil _ _ _ _ _ | exact Kd.S_nil _ _ _ _ _, upB1 HB.out GE271.out⟩

/-! ### plinthlaw03_awake: function 14 -/
def plinthlaw03_awake.f (k : Nat)  : Option (Bool) := (frame_Write.f k 7 1 (([97, 98] : List Int))).bind fun bt289 => ((frame_Read.f k bt289.1 0).bind fun bt293 => (if bt289.2 = 0 then (if bt293.2.2.2.2 = 0 then (if (bt289.1.length : Int) = 22 then (if bt293.2.2.2.1 = 22 then (if bt293.1 = 7 then (some ((strOfNums bt293.2.2.1).toList == ([97, 98] : List UInt8))) else (some false)) else (some false)) else (some false)) else (some false)) else (some false)))
theorem plinthlaw03_awake.mono : ∀ k, LeO (plinthlaw03_awake.f k ) (plinthlaw03_awake.f (k + 1) ) := by
  intro  k
  unfold plinthlaw03_awake.f
  repeat' first
      | (with_reducible exact frame_Read.mono _ _ _)
      | (with_reducible exact frame_Write.mono _ _ _ _)
      | (with_reducible exact LeO.refl _)
      | (with_reducible exact LeO.none _)
      | (with_reducible refine LeO.ite ?_ ?_)
      | (with_reducible refine LeO.bind ?_ (fun _ => ?_))
      | exact frame_Read.mono _ _ _
      | exact frame_Write.mono _ _ _ _
      | exact LeO.none _
      | refine LeO.ite ?_ ?_
      | refine LeO.bind ?_ (fun _ => ?_)
set_option maxHeartbeats 8000000 in
set_option maxRecDepth 100000 in
theorem plinthlaw03_awake.calls (k : Nat)  (r : Bool) (w : World) (h : plinthlaw03_awake.f k  = some r) :
    Calls Try.prog 14 #[] w fun e w' => e = .returned (.bool r) ∧ Below w.heap.size w w' := by
  have hu26 := Try.underlying26
  have HB := Aside0.mk (Below.refl w.heap.size w)
  have H : ((frame_Write.f k 7 1 (([97, 98] : List Int))).bind fun bt289 => ((frame_Read.f k bt289.1 0).bind fun bt293 => (if bt289.2 = 0 then (if bt293.2.2.2.2 = 0 then (if (bt289.1.length : Int) = 22 then (if bt293.2.2.2.1 = 22 then (if bt293.1 = 7 then (some ((strOfNums bt293.2.2.1).toList == ([97, 98] : List UInt8))) else (some false)) else (some false)) else (some false)) else (some false)) else (some false)))) = some r := h
  clear h
  obtain ⟨y286, hy286⟩ : ∃ y_ : List Int, y_ = (([97, 98] : List Int)) := ⟨_, rfl⟩
  replace H : ((frame_Write.f k 7 1 y286).bind fun bt289 => ((frame_Read.f k bt289.1 0).bind fun bt293 => (if bt289.2 = 0 then (if bt293.2.2.2.2 = 0 then (if (bt289.1.length : Int) = 22 then (if bt293.2.2.2.1 = 22 then (if bt293.1 = 7 then (some ((strOfNums bt293.2.2.1).toList == ([97, 98] : List UInt8))) else (some false)) else (some false)) else (some false)) else (some false)) else (some false)))) = some r := by first | (rw [hy286]; with_reducible exact H) | (have H2_ := (Option.bind_some _ _).symm.trans H; rw [hy286]; with_reducible exact H2_) | (have H2_ := (Option.bind_some _ _).symm.trans H; with_reducible exact H2_) | with_reducible exact H | (rw [hy286]; exact H) | exact H
  have Ny286 := Aside0.mk hy286
  clear hy286
  replace H := Option.bind_eq_some_iff.mp H
  obtain ⟨⟨t289, t292⟩, A10, H⟩ := H
  replace H : ((frame_Read.f k t289 0).bind fun bt293 => (if t292 = 0 then (if bt293.2.2.2.2 = 0 then (if (t289.length : Int) = 22 then (if bt293.2.2.2.1 = 22 then (if bt293.1 = 7 then (some ((strOfNums bt293.2.2.1).toList == ([97, 98] : List UInt8))) else (some false)) else (some false)) else (some false)) else (some false)) else (some false))) = some r := H
  have A1 := Aside0.mk A10
  clear A10
  replace H := Option.bind_eq_some_iff.mp H
  obtain ⟨⟨t293, t294, t295, t298, t299⟩, A20, H⟩ := H
  replace H : (if t292 = 0 then (if t299 = 0 then (if (t289.length : Int) = 22 then (if t298 = 22 then (if t293 = 7 then (some ((strOfNums t295).toList == ([97, 98] : List UInt8))) else (some false)) else (some false)) else (some false)) else (some false)) else (some false)) = some r := H
  have A2 := Aside0.mk A20
  clear A20
  by_cases c3 : t292 = 0
  · rw [if_pos c3] at H
    have c3b0 : (t292 == 0) = true := beq_iff_eq.mpr c3
    have c3b1 : (t292 != 0) = false := bne_eq_false_iff_eq.mpr c3
    clear c3
    by_cases c4 : t299 = 0
    · rw [if_pos c4] at H
      have c4b0 : (t299 == 0) = true := beq_iff_eq.mpr c4
      have c4b1 : (t299 != 0) = false := bne_eq_false_iff_eq.mpr c4
      clear c4
      by_cases c5 : (t289.length : Int) = 22
      · rw [if_pos c5] at H
        have c5b0 : ((t289.length : Int) == 22) = true := beq_iff_eq.mpr c5
        have c5b1 : ((t289.length : Int) != 22) = false := bne_eq_false_iff_eq.mpr c5
        clear c5
        by_cases c6 : t298 = 22
        · rw [if_pos c6] at H
          have c6b0 : (t298 == 22) = true := beq_iff_eq.mpr c6
          have c6b1 : (t298 != 22) = false := bne_eq_false_iff_eq.mpr c6
          clear c6
          by_cases c7 : t293 = 7
          · rw [if_pos c7] at H
            have c7b0 : (t293 == 7) = true := beq_iff_eq.mpr c7
            have c7b1 : (t293 != 7) = false := bne_eq_false_iff_eq.mpr c7
            clear c7
            obtain rfl := Option.some.inj H
            go_enter Try.func14, Try.ntmps14
            go_wp2_with (first | ((with_reducible refine gate_dst (N := 7) rfl ?_); (try (refine gate_guard (by rfl) ?_; dsimp only)); refine ext_litc _ 22 5 ?hg ?hg2 (N := 7) ?hd ([97, 98] : List Int) Try.underlying22 Try.underlying5 ?hr ?hr2 (Below.refl _ _) (Nat.le_refl _) (by simp) ?_; (case hd => rfl); (case hg => rfl); (case hg2 => rfl); (case hr => first | (go_simp; done) | (go_simp; rfl) | (simp only [nums, List.map_cons, List.map_nil]; go_simp; done) | (simp only [nums, List.map_cons, List.map_nil]; go_simp; rfl)); (case hr2 => intro w2_ w3_ hcv_; (try simp only [List.length_cons, List.length_nil, Nat.zero_add, Nat.reduceAdd] at hcv_); first | (go_simp; done) | (go_simp; rfl)); intro v287 w8 ho9 hb hg_ hnew_; clear hg_ hnew_; (first | rw [← Ny286.out] at ho9 | (simp only [Int.reduceToNat] at ho9; rw [← Ny286.out] at ho9)); have HO288 := Aside0.mk (Kd.V_lower (Kd.V_mono (ok' := fun k_ => True) ho9 (fun k_ hk_ => trivial)) (below_size (upB0 HB.out))); replace HB := Aside0.mk (below_step (upB0 HB.out) hb); clear hb ho9; obtain ⟨Ao10, co10, eo10⟩ := Kd.V_slice HO288.out; subst eo10) | ((with_reducible refine gate_callee (f := 15) rfl ?_); refine goesL_ (some 10) rfl rfl Try.func15 (by kernel_rfl) rfl #[.agg #[.int .u8 7, .int .u64 1, .slice Ao10 y286.length co10]] rfl argA ?_; (with_reducible refine (frame_Write.calls k 7 1 _ _ y286 t289 t292 _ ?side1 ?side2 A1.out).mono ?_); (case side1 => exact upC ((Kd.V_reads' HO288.out).2.2)); (case side2 => exact (Kd.V_reads' HO288.out).2.1); rintro e w11 ⟨v290, rfl, ho0, hb⟩; refine ⟨_, rfl, ?_⟩; replace HO288 := Aside0.mk (Kd.V_elder' (upV HO288.out) (Kd.R_base ho0) hb); have HO291 := Aside0.mk (Kd.R_lower ho0 (below_size (upB0 HB.out))); replace HB := Aside0.mk (below_step (upB0 HB.out) hb); (try clear hb); (try clear hb2); (try clear hk); (try clear hi); (try clear ho0); obtain ⟨Ao12, co12, eo12⟩ := Kd.R_slice HO291.out; subst eo12) | ((with_reducible refine gate_callee (f := 11) rfl ?_); refine goesL_ (some 15) rfl rfl Try.func11 (by kernel_rfl) rfl #[.slice Ao12 t289.length co12, .int .i64 0] rfl argA ?_; (with_reducible refine (frame_Read.calls k _ _ t289 0 t293 t294 t295 t298 t299 _ ?side1 ?side2 A2.out).mono ?_); (case side1 => exact upC ((Kd.R_reads' HO291.out).2.2)); (case side2 => exact (Kd.R_reads' HO291.out).2.1); rintro e w13 ⟨v296, rfl, ho0, hb⟩; refine ⟨_, rfl, ?_⟩; replace HO288 := Aside0.mk (Kd.V_elder' (upV HO288.out) (Kd.Q_base ho0) hb); have HO297 := Aside0.mk (Kd.Q_lower (Kd.Q_new' ho0 (Kd.R_lt (upR HO291.out))) (below_size (upB0 HB.out))); replace HO291 := Aside0.mk (Kd.R_elder' (upR HO291.out) (Kd.Q_base ho0) hb); replace HB := Aside0.mk (below_step (upB0 HB.out) hb); (try clear hb); (try clear hb2); (try clear hk); (try clear hi); (try clear ho0)) | ((with_reducible refine gate_dst (N := 3) rfl ?_); (try (refine gate_guard (by rfl) ?_; dsimp only)); refine box_event ?hg (N := 3) ?hd (cs := #[.int .u8 0, .int .u64 0, .slice none 0 0]) (t := 26) ?hr ?_; (case hd => rfl); (case hg => rfl); (case hr => first | (go_simp; done) | (go_simp; rfl)); intro gb300 hg w14 hbox hb; replace HO288 := Aside0.mk (Kd.V_below (Kd.V_elderB (upV HO288.out) gb300 (Nat.le_of_eq hg.symm)) hb); replace HO291 := Aside0.mk (Kd.R_below (upR HO291.out) hb); replace HO297 := Aside0.mk (Kd.Q_below (by (with_reducible repeat (first | apply Kd.Q_alloc | apply Kd.Q_drewN | apply Kd.Q_drew)); exact HO297.out) hb); have BK300 := Aside0.mk (hbox); have GW300 := Aside0.mk ((by rw [hg]; exact (below_size (upB0 HB.out)) : w.heap.size ≤ gb300)); have GE300 := Aside0.mk ((by rw [hg]; exact (below_size (upB0 HB.out)) : w.heap.size ≤ gb300)); replace HB := Aside0.mk (below_step (upB0 HB.out) hb); clear hb hbox hg; obtain ⟨hcz15_0, hcz15_1, hcz15_2, hfz15_0, hfz15_1, hfz15_2⟩ := cells3 BK300.out; obtain ⟨Ao16, co16, eo16, _⟩ := Kd.Q_slice HO297.out; subst eo16; have hcvd17 := fun (n_ : Nat) => Kd.C_string (P := Try.prog) (c := co16) Try.underlying22 Try.underlying5 Try.underlying9 (Kd.Q_reads' (Kd.Q_drewN HO297.out n_)).2.2; have hcv18 := Kd.C_string (P := Try.prog) (c := co16) Try.underlying22 Try.underlying5 Try.underlying9 (Kd.Q_reads' (Kd.Q_far (p := ⟨gb300, 2, none⟩) (Kd.Q_far (p := ⟨gb300, 1, none⟩) (Kd.Q_far (p := ⟨gb300, 0, none⟩) (Kd.Q_types HO297.out BK300.out (by decide)) (fun _ hk => hk.2) (.int .u8 t293)) (fun _ hk => hk.2) (.int .u64 t294)) (fun _ hk => hk.2) (.slice Ao16 t295.length co16))).2.2))
            go_ret
            exact ⟨by first | rfl | (simp [errW_none, errW_some] <;> rfl) | (simp [*, errW_none, errW_some] <;> rfl), upB1 HB.out GE300.out⟩
          · rw [if_neg c7] at H
            have c7b0 : (t293 == 7) = false := beq_eq_false_iff_ne.mpr c7
            have c7b1 : (t293 != 7) = true := bne_iff_ne.mpr c7
            obtain rfl := Option.some.inj H
            go_enter Try.func14, Try.ntmps14
            go_wp2_with (first | ((with_reducible refine gate_dst (N := 7) rfl ?_); (try (refine gate_guard (by rfl) ?_; dsimp only)); refine ext_litc _ 22 5 ?hg ?hg2 (N := 7) ?hd ([97, 98] : List Int) Try.underlying22 Try.underlying5 ?hr ?hr2 (Below.refl _ _) (Nat.le_refl _) (by simp) ?_; (case hd => rfl); (case hg => rfl); (case hg2 => rfl); (case hr => first | (go_simp; done) | (go_simp; rfl) | (simp only [nums, List.map_cons, List.map_nil]; go_simp; done) | (simp only [nums, List.map_cons, List.map_nil]; go_simp; rfl)); (case hr2 => intro w2_ w3_ hcv_; (try simp only [List.length_cons, List.length_nil, Nat.zero_add, Nat.reduceAdd] at hcv_); first | (go_simp; done) | (go_simp; rfl)); intro v287 w19 ho20 hb hg_ hnew_; clear hg_ hnew_; (first | rw [← Ny286.out] at ho20 | (simp only [Int.reduceToNat] at ho20; rw [← Ny286.out] at ho20)); have HO288 := Aside0.mk (Kd.V_lower (Kd.V_mono (ok' := fun k_ => True) ho20 (fun k_ hk_ => trivial)) (below_size (upB0 HB.out))); replace HB := Aside0.mk (below_step (upB0 HB.out) hb); clear hb ho20; obtain ⟨Ao21, co21, eo21⟩ := Kd.V_slice HO288.out; subst eo21) | ((with_reducible refine gate_callee (f := 15) rfl ?_); refine goesL_ (some 10) rfl rfl Try.func15 (by kernel_rfl) rfl #[.agg #[.int .u8 7, .int .u64 1, .slice Ao21 y286.length co21]] rfl argA ?_; (with_reducible refine (frame_Write.calls k 7 1 _ _ y286 t289 t292 _ ?side1 ?side2 A1.out).mono ?_); (case side1 => exact upC ((Kd.V_reads' HO288.out).2.2)); (case side2 => exact (Kd.V_reads' HO288.out).2.1); rintro e w22 ⟨v290, rfl, ho0, hb⟩; refine ⟨_, rfl, ?_⟩; replace HO288 := Aside0.mk (Kd.V_elder' (upV HO288.out) (Kd.R_base ho0) hb); have HO291 := Aside0.mk (Kd.R_lower ho0 (below_size (upB0 HB.out))); replace HB := Aside0.mk (below_step (upB0 HB.out) hb); (try clear hb); (try clear hb2); (try clear hk); (try clear hi); (try clear ho0); obtain ⟨Ao23, co23, eo23⟩ := Kd.R_slice HO291.out; subst eo23) | ((with_reducible refine gate_callee (f := 11) rfl ?_); refine goesL_ (some 15) rfl rfl Try.func11 (by kernel_rfl) rfl #[.slice Ao23 t289.length co23, .int .i64 0] rfl argA ?_; (with_reducible refine (frame_Read.calls k _ _ t289 0 t293 t294 t295 t298 t299 _ ?side1 ?side2 A2.out).mono ?_); (case side1 => exact upC ((Kd.R_reads' HO291.out).2.2)); (case side2 => exact (Kd.R_reads' HO291.out).2.1); rintro e w24 ⟨v296, rfl, ho0, hb⟩; refine ⟨_, rfl, ?_⟩; replace HO288 := Aside0.mk (Kd.V_elder' (upV HO288.out) (Kd.Q_base ho0) hb); have HO297 := Aside0.mk (Kd.Q_lower (Kd.Q_new' ho0 (Kd.R_lt (upR HO291.out))) (below_size (upB0 HB.out))); replace HO291 := Aside0.mk (Kd.R_elder' (upR HO291.out) (Kd.Q_base ho0) hb); replace HB := Aside0.mk (below_step (upB0 HB.out) hb); (try clear hb); (try clear hb2); (try clear hk); (try clear hi); (try clear ho0)) | ((with_reducible refine gate_dst (N := 3) rfl ?_); (try (refine gate_guard (by rfl) ?_; dsimp only)); refine box_event ?hg (N := 3) ?hd (cs := #[.int .u8 0, .int .u64 0, .slice none 0 0]) (t := 26) ?hr ?_; (case hd => rfl); (case hg => rfl); (case hr => first | (go_simp; done) | (go_simp; rfl)); intro gb300 hg w25 hbox hb; replace HO288 := Aside0.mk (Kd.V_below (Kd.V_elderB (upV HO288.out) gb300 (Nat.le_of_eq hg.symm)) hb); replace HO291 := Aside0.mk (Kd.R_below (upR HO291.out) hb); replace HO297 := Aside0.mk (Kd.Q_below (by (with_reducible repeat (first | apply Kd.Q_alloc | apply Kd.Q_drewN | apply Kd.Q_drew)); exact HO297.out) hb); have BK300 := Aside0.mk (hbox); have GW300 := Aside0.mk ((by rw [hg]; exact (below_size (upB0 HB.out)) : w.heap.size ≤ gb300)); have GE300 := Aside0.mk ((by rw [hg]; exact (below_size (upB0 HB.out)) : w.heap.size ≤ gb300)); replace HB := Aside0.mk (below_step (upB0 HB.out) hb); clear hb hbox hg; obtain ⟨hcz26_0, hcz26_1, hcz26_2, hfz26_0, hfz26_1, hfz26_2⟩ := cells3 BK300.out; obtain ⟨Ao27, co27, eo27, _⟩ := Kd.Q_slice HO297.out; subst eo27))
            go_ret
            exact ⟨by first | rfl | (simp [errW_none, errW_some] <;> rfl) | (simp [*, errW_none, errW_some] <;> rfl), upB1 HB.out GE300.out⟩
        · rw [if_neg c6] at H
          have c6b0 : (t298 == 22) = false := beq_eq_false_iff_ne.mpr c6
          have c6b1 : (t298 != 22) = true := bne_iff_ne.mpr c6
          obtain rfl := Option.some.inj H
          go_enter Try.func14, Try.ntmps14
          go_wp2_with (first | ((with_reducible refine gate_dst (N := 7) rfl ?_); (try (refine gate_guard (by rfl) ?_; dsimp only)); refine ext_litc _ 22 5 ?hg ?hg2 (N := 7) ?hd ([97, 98] : List Int) Try.underlying22 Try.underlying5 ?hr ?hr2 (Below.refl _ _) (Nat.le_refl _) (by simp) ?_; (case hd => rfl); (case hg => rfl); (case hg2 => rfl); (case hr => first | (go_simp; done) | (go_simp; rfl) | (simp only [nums, List.map_cons, List.map_nil]; go_simp; done) | (simp only [nums, List.map_cons, List.map_nil]; go_simp; rfl)); (case hr2 => intro w2_ w3_ hcv_; (try simp only [List.length_cons, List.length_nil, Nat.zero_add, Nat.reduceAdd] at hcv_); first | (go_simp; done) | (go_simp; rfl)); intro v287 w28 ho29 hb hg_ hnew_; clear hg_ hnew_; (first | rw [← Ny286.out] at ho29 | (simp only [Int.reduceToNat] at ho29; rw [← Ny286.out] at ho29)); have HO288 := Aside0.mk (Kd.V_lower (Kd.V_mono (ok' := fun k_ => True) ho29 (fun k_ hk_ => trivial)) (below_size (upB0 HB.out))); replace HB := Aside0.mk (below_step (upB0 HB.out) hb); clear hb ho29; obtain ⟨Ao30, co30, eo30⟩ := Kd.V_slice HO288.out; subst eo30) | ((with_reducible refine gate_callee (f := 15) rfl ?_); refine goesL_ (some 10) rfl rfl Try.func15 (by kernel_rfl) rfl #[.agg #[.int .u8 7, .int .u64 1, .slice Ao30 y286.length co30]] rfl argA ?_; (with_reducible refine (frame_Write.calls k 7 1 _ _ y286 t289 t292 _ ?side1 ?side2 A1.out).mono ?_); (case side1 => exact upC ((Kd.V_reads' HO288.out).2.2)); (case side2 => exact (Kd.V_reads' HO288.out).2.1); rintro e w31 ⟨v290, rfl, ho0, hb⟩; refine ⟨_, rfl, ?_⟩; replace HO288 := Aside0.mk (Kd.V_elder' (upV HO288.out) (Kd.R_base ho0) hb); have HO291 := Aside0.mk (Kd.R_lower ho0 (below_size (upB0 HB.out))); replace HB := Aside0.mk (below_step (upB0 HB.out) hb); (try clear hb); (try clear hb2); (try clear hk); (try clear hi); (try clear ho0); obtain ⟨Ao32, co32, eo32⟩ := Kd.R_slice HO291.out; subst eo32) | ((with_reducible refine gate_callee (f := 11) rfl ?_); refine goesL_ (some 15) rfl rfl Try.func11 (by kernel_rfl) rfl #[.slice Ao32 t289.length co32, .int .i64 0] rfl argA ?_; (with_reducible refine (frame_Read.calls k _ _ t289 0 t293 t294 t295 t298 t299 _ ?side1 ?side2 A2.out).mono ?_); (case side1 => exact upC ((Kd.R_reads' HO291.out).2.2)); (case side2 => exact (Kd.R_reads' HO291.out).2.1); rintro e w33 ⟨v296, rfl, ho0, hb⟩; refine ⟨_, rfl, ?_⟩; replace HO288 := Aside0.mk (Kd.V_elder' (upV HO288.out) (Kd.Q_base ho0) hb); have HO297 := Aside0.mk (Kd.Q_lower (Kd.Q_new' ho0 (Kd.R_lt (upR HO291.out))) (below_size (upB0 HB.out))); replace HO291 := Aside0.mk (Kd.R_elder' (upR HO291.out) (Kd.Q_base ho0) hb); replace HB := Aside0.mk (below_step (upB0 HB.out) hb); (try clear hb); (try clear hb2); (try clear hk); (try clear hi); (try clear ho0)) | ((with_reducible refine gate_dst (N := 3) rfl ?_); (try (refine gate_guard (by rfl) ?_; dsimp only)); refine box_event ?hg (N := 3) ?hd (cs := #[.int .u8 0, .int .u64 0, .slice none 0 0]) (t := 26) ?hr ?_; (case hd => rfl); (case hg => rfl); (case hr => first | (go_simp; done) | (go_simp; rfl)); intro gb300 hg w34 hbox hb; replace HO288 := Aside0.mk (Kd.V_below (Kd.V_elderB (upV HO288.out) gb300 (Nat.le_of_eq hg.symm)) hb); replace HO291 := Aside0.mk (Kd.R_below (upR HO291.out) hb); replace HO297 := Aside0.mk (Kd.Q_below (by (with_reducible repeat (first | apply Kd.Q_alloc | apply Kd.Q_drewN | apply Kd.Q_drew)); exact HO297.out) hb); have BK300 := Aside0.mk (hbox); have GW300 := Aside0.mk ((by rw [hg]; exact (below_size (upB0 HB.out)) : w.heap.size ≤ gb300)); have GE300 := Aside0.mk ((by rw [hg]; exact (below_size (upB0 HB.out)) : w.heap.size ≤ gb300)); replace HB := Aside0.mk (below_step (upB0 HB.out) hb); clear hb hbox hg; obtain ⟨hcz35_0, hcz35_1, hcz35_2, hfz35_0, hfz35_1, hfz35_2⟩ := cells3 BK300.out; obtain ⟨Ao36, co36, eo36, _⟩ := Kd.Q_slice HO297.out; subst eo36))
          go_ret
          exact ⟨by first | rfl | (simp [errW_none, errW_some] <;> rfl) | (simp [*, errW_none, errW_some] <;> rfl), upB1 HB.out GE300.out⟩
      · rw [if_neg c5] at H
        have c5b0 : ((t289.length : Int) == 22) = false := beq_eq_false_iff_ne.mpr c5
        have c5b1 : ((t289.length : Int) != 22) = true := bne_iff_ne.mpr c5
        obtain rfl := Option.some.inj H
        go_enter Try.func14, Try.ntmps14
        go_wp2_with (first | ((with_reducible refine gate_dst (N := 7) rfl ?_); (try (refine gate_guard (by rfl) ?_; dsimp only)); refine ext_litc _ 22 5 ?hg ?hg2 (N := 7) ?hd ([97, 98] : List Int) Try.underlying22 Try.underlying5 ?hr ?hr2 (Below.refl _ _) (Nat.le_refl _) (by simp) ?_; (case hd => rfl); (case hg => rfl); (case hg2 => rfl); (case hr => first | (go_simp; done) | (go_simp; rfl) | (simp only [nums, List.map_cons, List.map_nil]; go_simp; done) | (simp only [nums, List.map_cons, List.map_nil]; go_simp; rfl)); (case hr2 => intro w2_ w3_ hcv_; (try simp only [List.length_cons, List.length_nil, Nat.zero_add, Nat.reduceAdd] at hcv_); first | (go_simp; done) | (go_simp; rfl)); intro v287 w37 ho38 hb hg_ hnew_; clear hg_ hnew_; (first | rw [← Ny286.out] at ho38 | (simp only [Int.reduceToNat] at ho38; rw [← Ny286.out] at ho38)); have HO288 := Aside0.mk (Kd.V_lower (Kd.V_mono (ok' := fun k_ => True) ho38 (fun k_ hk_ => trivial)) (below_size (upB0 HB.out))); replace HB := Aside0.mk (below_step (upB0 HB.out) hb); clear hb ho38; obtain ⟨Ao39, co39, eo39⟩ := Kd.V_slice HO288.out; subst eo39) | ((with_reducible refine gate_callee (f := 15) rfl ?_); refine goesL_ (some 10) rfl rfl Try.func15 (by kernel_rfl) rfl #[.agg #[.int .u8 7, .int .u64 1, .slice Ao39 y286.length co39]] rfl argA ?_; (with_reducible refine (frame_Write.calls k 7 1 _ _ y286 t289 t292 _ ?side1 ?side2 A1.out).mono ?_); (case side1 => exact upC ((Kd.V_reads' HO288.out).2.2)); (case side2 => exact (Kd.V_reads' HO288.out).2.1); rintro e w40 ⟨v290, rfl, ho0, hb⟩; refine ⟨_, rfl, ?_⟩; replace HO288 := Aside0.mk (Kd.V_elder' (upV HO288.out) (Kd.R_base ho0) hb); have HO291 := Aside0.mk (Kd.R_lower ho0 (below_size (upB0 HB.out))); replace HB := Aside0.mk (below_step (upB0 HB.out) hb); (try clear hb); (try clear hb2); (try clear hk); (try clear hi); (try clear ho0); obtain ⟨Ao41, co41, eo41⟩ := Kd.R_slice HO291.out; subst eo41) | ((with_reducible refine gate_callee (f := 11) rfl ?_); refine goesL_ (some 15) rfl rfl Try.func11 (by kernel_rfl) rfl #[.slice Ao41 t289.length co41, .int .i64 0] rfl argA ?_; (with_reducible refine (frame_Read.calls k _ _ t289 0 t293 t294 t295 t298 t299 _ ?side1 ?side2 A2.out).mono ?_); (case side1 => exact upC ((Kd.R_reads' HO291.out).2.2)); (case side2 => exact (Kd.R_reads' HO291.out).2.1); rintro e w42 ⟨v296, rfl, ho0, hb⟩; refine ⟨_, rfl, ?_⟩; replace HO288 := Aside0.mk (Kd.V_elder' (upV HO288.out) (Kd.Q_base ho0) hb); have HO297 := Aside0.mk (Kd.Q_lower (Kd.Q_new' ho0 (Kd.R_lt (upR HO291.out))) (below_size (upB0 HB.out))); replace HO291 := Aside0.mk (Kd.R_elder' (upR HO291.out) (Kd.Q_base ho0) hb); replace HB := Aside0.mk (below_step (upB0 HB.out) hb); (try clear hb); (try clear hb2); (try clear hk); (try clear hi); (try clear ho0)) | ((with_reducible refine gate_dst (N := 3) rfl ?_); (try (refine gate_guard (by rfl) ?_; dsimp only)); refine box_event ?hg (N := 3) ?hd (cs := #[.int .u8 0, .int .u64 0, .slice none 0 0]) (t := 26) ?hr ?_; (case hd => rfl); (case hg => rfl); (case hr => first | (go_simp; done) | (go_simp; rfl)); intro gb300 hg w43 hbox hb; replace HO288 := Aside0.mk (Kd.V_below (Kd.V_elderB (upV HO288.out) gb300 (Nat.le_of_eq hg.symm)) hb); replace HO291 := Aside0.mk (Kd.R_below (upR HO291.out) hb); replace HO297 := Aside0.mk (Kd.Q_below (by (with_reducible repeat (first | apply Kd.Q_alloc | apply Kd.Q_drewN | apply Kd.Q_drew)); exact HO297.out) hb); have BK300 := Aside0.mk (hbox); have GW300 := Aside0.mk ((by rw [hg]; exact (below_size (upB0 HB.out)) : w.heap.size ≤ gb300)); have GE300 := Aside0.mk ((by rw [hg]; exact (below_size (upB0 HB.out)) : w.heap.size ≤ gb300)); replace HB := Aside0.mk (below_step (upB0 HB.out) hb); clear hb hbox hg; obtain ⟨hcz44_0, hcz44_1, hcz44_2, hfz44_0, hfz44_1, hfz44_2⟩ := cells3 BK300.out; obtain ⟨Ao45, co45, eo45, _⟩ := Kd.Q_slice HO297.out; subst eo45))
        go_ret
        exact ⟨by first | rfl | (simp [errW_none, errW_some] <;> rfl) | (simp [*, errW_none, errW_some] <;> rfl), upB1 HB.out GE300.out⟩
    · rw [if_neg c4] at H
      have c4b0 : (t299 == 0) = false := beq_eq_false_iff_ne.mpr c4
      have c4b1 : (t299 != 0) = true := bne_iff_ne.mpr c4
      obtain rfl := Option.some.inj H
      go_enter Try.func14, Try.ntmps14
      go_wp2_with (first | ((with_reducible refine gate_dst (N := 7) rfl ?_); (try (refine gate_guard (by rfl) ?_; dsimp only)); refine ext_litc _ 22 5 ?hg ?hg2 (N := 7) ?hd ([97, 98] : List Int) Try.underlying22 Try.underlying5 ?hr ?hr2 (Below.refl _ _) (Nat.le_refl _) (by simp) ?_; (case hd => rfl); (case hg => rfl); (case hg2 => rfl); (case hr => first | (go_simp; done) | (go_simp; rfl) | (simp only [nums, List.map_cons, List.map_nil]; go_simp; done) | (simp only [nums, List.map_cons, List.map_nil]; go_simp; rfl)); (case hr2 => intro w2_ w3_ hcv_; (try simp only [List.length_cons, List.length_nil, Nat.zero_add, Nat.reduceAdd] at hcv_); first | (go_simp; done) | (go_simp; rfl)); intro v287 w46 ho47 hb hg_ hnew_; clear hg_ hnew_; (first | rw [← Ny286.out] at ho47 | (simp only [Int.reduceToNat] at ho47; rw [← Ny286.out] at ho47)); have HO288 := Aside0.mk (Kd.V_lower (Kd.V_mono (ok' := fun k_ => True) ho47 (fun k_ hk_ => trivial)) (below_size (upB0 HB.out))); replace HB := Aside0.mk (below_step (upB0 HB.out) hb); clear hb ho47; obtain ⟨Ao48, co48, eo48⟩ := Kd.V_slice HO288.out; subst eo48) | ((with_reducible refine gate_callee (f := 15) rfl ?_); refine goesL_ (some 10) rfl rfl Try.func15 (by kernel_rfl) rfl #[.agg #[.int .u8 7, .int .u64 1, .slice Ao48 y286.length co48]] rfl argA ?_; (with_reducible refine (frame_Write.calls k 7 1 _ _ y286 t289 t292 _ ?side1 ?side2 A1.out).mono ?_); (case side1 => exact upC ((Kd.V_reads' HO288.out).2.2)); (case side2 => exact (Kd.V_reads' HO288.out).2.1); rintro e w49 ⟨v290, rfl, ho0, hb⟩; refine ⟨_, rfl, ?_⟩; replace HO288 := Aside0.mk (Kd.V_elder' (upV HO288.out) (Kd.R_base ho0) hb); have HO291 := Aside0.mk (Kd.R_lower ho0 (below_size (upB0 HB.out))); replace HB := Aside0.mk (below_step (upB0 HB.out) hb); (try clear hb); (try clear hb2); (try clear hk); (try clear hi); (try clear ho0); obtain ⟨Ao50, co50, eo50⟩ := Kd.R_slice HO291.out; subst eo50) | ((with_reducible refine gate_callee (f := 11) rfl ?_); refine goesL_ (some 15) rfl rfl Try.func11 (by kernel_rfl) rfl #[.slice Ao50 t289.length co50, .int .i64 0] rfl argA ?_; (with_reducible refine (frame_Read.calls k _ _ t289 0 t293 t294 t295 t298 t299 _ ?side1 ?side2 A2.out).mono ?_); (case side1 => exact upC ((Kd.R_reads' HO291.out).2.2)); (case side2 => exact (Kd.R_reads' HO291.out).2.1); rintro e w51 ⟨v296, rfl, ho0, hb⟩; refine ⟨_, rfl, ?_⟩; replace HO288 := Aside0.mk (Kd.V_elder' (upV HO288.out) (Kd.Q_base ho0) hb); have HO297 := Aside0.mk (Kd.Q_lower (Kd.Q_new' ho0 (Kd.R_lt (upR HO291.out))) (below_size (upB0 HB.out))); replace HO291 := Aside0.mk (Kd.R_elder' (upR HO291.out) (Kd.Q_base ho0) hb); replace HB := Aside0.mk (below_step (upB0 HB.out) hb); (try clear hb); (try clear hb2); (try clear hk); (try clear hi); (try clear ho0)) | ((with_reducible refine gate_dst (N := 3) rfl ?_); (try (refine gate_guard (by rfl) ?_; dsimp only)); refine box_event ?hg (N := 3) ?hd (cs := #[.int .u8 0, .int .u64 0, .slice none 0 0]) (t := 26) ?hr ?_; (case hd => rfl); (case hg => rfl); (case hr => first | (go_simp; done) | (go_simp; rfl)); intro gb300 hg w52 hbox hb; replace HO288 := Aside0.mk (Kd.V_below (Kd.V_elderB (upV HO288.out) gb300 (Nat.le_of_eq hg.symm)) hb); replace HO291 := Aside0.mk (Kd.R_below (upR HO291.out) hb); replace HO297 := Aside0.mk (Kd.Q_below (by (with_reducible repeat (first | apply Kd.Q_alloc | apply Kd.Q_drewN | apply Kd.Q_drew)); exact HO297.out) hb); have BK300 := Aside0.mk (hbox); have GW300 := Aside0.mk ((by rw [hg]; exact (below_size (upB0 HB.out)) : w.heap.size ≤ gb300)); have GE300 := Aside0.mk ((by rw [hg]; exact (below_size (upB0 HB.out)) : w.heap.size ≤ gb300)); replace HB := Aside0.mk (below_step (upB0 HB.out) hb); clear hb hbox hg; obtain ⟨hcz53_0, hcz53_1, hcz53_2, hfz53_0, hfz53_1, hfz53_2⟩ := cells3 BK300.out; obtain ⟨Ao54, co54, eo54, _⟩ := Kd.Q_slice HO297.out; subst eo54))
      go_ret
      exact ⟨by first | rfl | (simp [errW_none, errW_some] <;> rfl) | (simp [*, errW_none, errW_some] <;> rfl), upB1 HB.out GE300.out⟩
  · rw [if_neg c3] at H
    have c3b0 : (t292 == 0) = false := beq_eq_false_iff_ne.mpr c3
    have c3b1 : (t292 != 0) = true := bne_iff_ne.mpr c3
    obtain rfl := Option.some.inj H
    go_enter Try.func14, Try.ntmps14
    go_wp2_with (first | ((with_reducible refine gate_dst (N := 7) rfl ?_); (try (refine gate_guard (by rfl) ?_; dsimp only)); refine ext_litc _ 22 5 ?hg ?hg2 (N := 7) ?hd ([97, 98] : List Int) Try.underlying22 Try.underlying5 ?hr ?hr2 (Below.refl _ _) (Nat.le_refl _) (by simp) ?_; (case hd => rfl); (case hg => rfl); (case hg2 => rfl); (case hr => first | (go_simp; done) | (go_simp; rfl) | (simp only [nums, List.map_cons, List.map_nil]; go_simp; done) | (simp only [nums, List.map_cons, List.map_nil]; go_simp; rfl)); (case hr2 => intro w2_ w3_ hcv_; (try simp only [List.length_cons, List.length_nil, Nat.zero_add, Nat.reduceAdd] at hcv_); first | (go_simp; done) | (go_simp; rfl)); intro v287 w55 ho56 hb hg_ hnew_; clear hg_ hnew_; (first | rw [← Ny286.out] at ho56 | (simp only [Int.reduceToNat] at ho56; rw [← Ny286.out] at ho56)); have HO288 := Aside0.mk (Kd.V_lower (Kd.V_mono (ok' := fun k_ => True) ho56 (fun k_ hk_ => trivial)) (below_size (upB0 HB.out))); replace HB := Aside0.mk (below_step (upB0 HB.out) hb); clear hb ho56; obtain ⟨Ao57, co57, eo57⟩ := Kd.V_slice HO288.out; subst eo57) | ((with_reducible refine gate_callee (f := 15) rfl ?_); refine goesL_ (some 10) rfl rfl Try.func15 (by kernel_rfl) rfl #[.agg #[.int .u8 7, .int .u64 1, .slice Ao57 y286.length co57]] rfl argA ?_; (with_reducible refine (frame_Write.calls k 7 1 _ _ y286 t289 t292 _ ?side1 ?side2 A1.out).mono ?_); (case side1 => exact upC ((Kd.V_reads' HO288.out).2.2)); (case side2 => exact (Kd.V_reads' HO288.out).2.1); rintro e w58 ⟨v290, rfl, ho0, hb⟩; refine ⟨_, rfl, ?_⟩; replace HO288 := Aside0.mk (Kd.V_elder' (upV HO288.out) (Kd.R_base ho0) hb); have HO291 := Aside0.mk (Kd.R_lower ho0 (below_size (upB0 HB.out))); replace HB := Aside0.mk (below_step (upB0 HB.out) hb); (try clear hb); (try clear hb2); (try clear hk); (try clear hi); (try clear ho0); obtain ⟨Ao59, co59, eo59⟩ := Kd.R_slice HO291.out; subst eo59) | ((with_reducible refine gate_callee (f := 11) rfl ?_); refine goesL_ (some 15) rfl rfl Try.func11 (by kernel_rfl) rfl #[.slice Ao59 t289.length co59, .int .i64 0] rfl argA ?_; (with_reducible refine (frame_Read.calls k _ _ t289 0 t293 t294 t295 t298 t299 _ ?side1 ?side2 A2.out).mono ?_); (case side1 => exact upC ((Kd.R_reads' HO291.out).2.2)); (case side2 => exact (Kd.R_reads' HO291.out).2.1); rintro e w60 ⟨v296, rfl, ho0, hb⟩; refine ⟨_, rfl, ?_⟩; replace HO288 := Aside0.mk (Kd.V_elder' (upV HO288.out) (Kd.Q_base ho0) hb); have HO297 := Aside0.mk (Kd.Q_lower (Kd.Q_new' ho0 (Kd.R_lt (upR HO291.out))) (below_size (upB0 HB.out))); replace HO291 := Aside0.mk (Kd.R_elder' (upR HO291.out) (Kd.Q_base ho0) hb); replace HB := Aside0.mk (below_step (upB0 HB.out) hb); (try clear hb); (try clear hb2); (try clear hk); (try clear hi); (try clear ho0)) | ((with_reducible refine gate_dst (N := 3) rfl ?_); (try (refine gate_guard (by rfl) ?_; dsimp only)); refine box_event ?hg (N := 3) ?hd (cs := #[.int .u8 0, .int .u64 0, .slice none 0 0]) (t := 26) ?hr ?_; (case hd => rfl); (case hg => rfl); (case hr => first | (go_simp; done) | (go_simp; rfl)); intro gb300 hg w61 hbox hb; replace HO288 := Aside0.mk (Kd.V_below (Kd.V_elderB (upV HO288.out) gb300 (Nat.le_of_eq hg.symm)) hb); replace HO291 := Aside0.mk (Kd.R_below (upR HO291.out) hb); replace HO297 := Aside0.mk (Kd.Q_below (by (with_reducible repeat (first | apply Kd.Q_alloc | apply Kd.Q_drewN | apply Kd.Q_drew)); exact HO297.out) hb); have BK300 := Aside0.mk (hbox); have GW300 := Aside0.mk ((by rw [hg]; exact (below_size (upB0 HB.out)) : w.heap.size ≤ gb300)); have GE300 := Aside0.mk ((by rw [hg]; exact (below_size (upB0 HB.out)) : w.heap.size ≤ gb300)); replace HB := Aside0.mk (below_step (upB0 HB.out) hb); clear hb hbox hg; obtain ⟨hcz62_0, hcz62_1, hcz62_2, hfz62_0, hfz62_1, hfz62_2⟩ := cells3 BK300.out; obtain ⟨Ao63, co63, eo63, _⟩ := Kd.Q_slice HO297.out; subst eo63))
    go_ret
    exact ⟨by first | rfl | (simp [errW_none, errW_some] <;> rfl) | (simp [*, errW_none, errW_some] <;> rfl), upB1 HB.out GE300.out⟩

end Go.Proofs.Ytcajcbeioilgmaa.F
