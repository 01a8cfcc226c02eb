-- Written by ext (this session's own program).
import Derived.Test.YtogjpilkgghidaaFx0
import Derived.Test.YtogjpilkgghidaaFx21
import Derived.Test.YtogjpilkgghidaaFx25
namespace Go.Proofs.Ytogjpilkgghidaa.F
open Go.RowKit Go.Proofs.YtogjpilkgghidaaW.PrintWords Go.Proofs.YtogjpilkgghidaaW.PrintLast Go.Proofs.YtogjpilkgghidaaW.PrintMore
attribute [local go_sem] max2_int min2_int max_two min_two max_three min_three max_four min_four   -- for this text's walks alone
set_option linter.unusedVariables false
set_option linter.unusedSimpArgs false

/-! ### plinthref04_DecodeResult: function 29 -/
def plinthref04_DecodeResult.f (k : Nat) (l0 : List Int) : Option (Int × List Int × Int × Int) := if (l0.length : Int) < 1 then (some (0, ([] : List Int), 0, 10)) else ((plinthref01_GetText.f k l0 1).bind fun bt413 => (if bt413.2.2 = 0 then (if 0 < (l0.length : Int) then ((plinthref04_Result.f k (rd l0 0) bt413.1).bind fun t420 => (if t420 = 0 then (some (rd l0 0, bt413.1, bt413.2.1, 0)) else (some (0, ([] : List Int), 0, 42)))) else (none)) else ((plinthref04_broken.f bt413.2.2).bind fun t421 => (some (0, ([] : List Int), 0, t421)))))
theorem plinthref04_DecodeResult.mono : ∀ a0 k, LeO (plinthref04_DecodeResult.f k a0) (plinthref04_DecodeResult.f (k + 1) a0) := by
  intro a0 k
  unfold plinthref04_DecodeResult.f
  repeat' first
      | (with_reducible exact plinthref01_GetText.mono _ _ _)
      | (with_reducible exact plinthref04_Result.mono _ _ _)
      | (with_reducible exact LeO.refl _)
      | (with_reducible exact LeO.none _)
      | (with_reducible refine LeO.ite ?_ ?_)
      | (with_reducible refine LeO.bind ?_ (fun _ => ?_))
      | exact plinthref01_GetText.mono _ _ _
      | exact plinthref04_Result.mono _ _ _
      | exact LeO.none _
      | refine LeO.ite ?_ ?_
      | refine LeO.bind ?_ (fun _ => ?_)
set_option maxHeartbeats 8000000 in
set_option maxRecDepth 100000 in
theorem plinthref04_DecodeResult.calls (k : Nat) (A0 : Option Addr) (c0 : Nat) (l0 : List Int) (r1 : Int) (r2 : List Int) (r3 : Int) (r4 : Int) (w : World) (hr0 : Kd.C (Kd.int .u8) w A0 l0.length l0) (hc0 : l0.length ≤ c0) (h : plinthref04_DecodeResult.f k l0 = some (r1, r2, r3, r4)) :
    Calls Try.prog 29 #[.slice A0 l0.length c0] w fun e w' => ∃ v1_ : Value, e = .returned (.tuple #[.agg #[.int .u8 r1, v1_], .int .i64 r3, .int .i64 r4]) ∧ Kd.R (Kd.int .u8) 5 w' w.heap.size (fun _ => True) v1_ r2 ∧ Below w.heap.size w w' := by
  have hu41 := Try.underlying41
  have HR0 := Aside0.mk hr0
  have HC0 := Aside0.mk hc0
  clear hr0 hc0
  have HB := Aside0.mk (Below.refl w.heap.size w)
  have H : (if (l0.length : Int) < 1 then (some (0, ([] : List Int), 0, 10)) else ((plinthref01_GetText.f k l0 1).bind fun bt413 => (if bt413.2.2 = 0 then (if 0 < (l0.length : Int) then ((plinthref04_Result.f k (rd l0 0) bt413.1).bind fun t420 => (if t420 = 0 then (some (rd l0 0, bt413.1, bt413.2.1, 0)) else (some (0, ([] : List Int), 0, 42)))) else (none)) else ((plinthref04_broken.f bt413.2.2).bind fun t421 => (some (0, ([] : List Int), 0, t421)))))) = some (r1, r2, r3, r4) := h
  clear h
  by_cases c2 : (l0.length : Int) < 1
  · rw [if_pos c2] at H
    have c2b0 : decide ((l0.length : Int) < 1) = true := decide_eq_true c2
    have c2b1 : decide (l0.length < 1) = true := decide_eq_true (by omega)
    clear c2
    simp only [Option.some.injEq, Prod.mk.injEq] at H
    obtain ⟨rfl, rfl, rfl, rfl⟩ := H
    go_enter Try.func29, Try.ntmps29
    go_wp2_with (first | ((with_reducible refine gate_dst (N := 2) rfl ?_); refine box_event ?hg (N := 2) ?hd (cs := #[.int .u8 0, .slice none 0 0]) (t := 41) ?hr ?_; (case hd => rfl); (case hg => rfl); (case hr => first | (go_simp; done) | (go_simp; rfl)); intro gb412 hg w3 hbox hb; have BK412 := Aside0.mk (hbox); have GW412 := Aside0.mk ((by rw [hg]; exact (below_size (upB0 HB.out)) : w.heap.size ≤ gb412)); have GE412 := Aside0.mk ((by rw [hg]; exact (below_size (upB0 HB.out)) : w.heap.size ≤ gb412)); replace HB := Aside0.mk (below_step (upB0 HB.out) hb); clear hb hbox hg; obtain ⟨hcz4_0, hcz4_1, hfz4_0, hfz4_1⟩ := cells2 BK412.out))
    refine bodyPost_ret (results_ctt rfl _ _ gb412 41 #[.int .u8 0, .slice none 0 0] (0, 0) _ rfl (by refine upK ?_; refine blk_put (cs := #[.int .u8 0, .slice none 0 0]) ?_ 1 _ rfl; refine upK ?_; refine blk_put (cs := #[.int .u8 0, .slice none 0 0]) ?_ 0 _ rfl; refine upK ?_; exact BK412.out) Try.underlying41 rfl (by kernel_rfl)) rfl ?_
    exact ⟨_, by first | rfl | (simp [errW_none, errW_some] <;> rfl) | (simp [*, errW_none, errW_some] <;> rfl), by first | exact Kd.R_nil _ _ _ _ _ | exact Kd.N_nil _ _ _ _ _ | exact Kd.V_nil _ _ _ _ _ | exact Kd.Q_nil _ _ _ _ _ | exact Kd.S_nil _ _ _ _ _, upB1 HB.out GE412.out⟩
  · rw [if_neg c2] at H
    have c2b0 : decide ((l0.length : Int) < 1) = false := decide_eq_false c2
    have c2b1 : decide (l0.length < 1) = false := decide_eq_false (by omega)
    clear c2
    replace H := Option.bind_eq_some_iff.mp H
    obtain ⟨⟨t413, t414, t415⟩, A50, H⟩ := H
    replace H : (if t415 = 0 then (if 0 < (l0.length : Int) then ((plinthref04_Result.f k (rd l0 0) t413).bind fun t420 => (if t420 = 0 then (some (rd l0 0, t413, t414, 0)) else (some (0, ([] : List Int), 0, 42)))) else (none)) else ((plinthref04_broken.f t415).bind fun t421 => (some (0, ([] : List Int), 0, t421)))) = some (r1, r2, r3, r4) := H
    have A5 := Aside0.mk A50
    clear A50
    by_cases c6 : t415 = 0
    · rw [if_pos c6] at H
      have c6b0 : (t415 == 0) = true := beq_iff_eq.mpr c6
      have c6b1 : (t415 != 0) = false := bne_eq_false_iff_eq.mpr c6
      clear c6
      by_cases c7 : 0 < (l0.length : Int)
      · rw [if_pos c7] at H
        have c7b0 : decide (0 < (l0.length : Int)) = true := decide_eq_true c7
        have c7b1 : decide (0 < l0.length) = true := decide_eq_true (by omega)
        clear c7
        replace H := Option.bind_eq_some_iff.mp H
        obtain ⟨t420, A80, H⟩ := H
        replace H : (if t420 = 0 then (some (rd l0 0, t413, t414, 0)) else (some (0, ([] : List Int), 0, 42))) = some (r1, r2, r3, r4) := H
        have A8 := Aside0.mk A80
        clear A80
        by_cases c9 : t420 = 0
        · rw [if_pos c9] at H
          have c9b0 : (t420 == 0) = true := beq_iff_eq.mpr c9
          have c9b1 : (t420 != 0) = false := bne_eq_false_iff_eq.mpr c9
          clear c9
          simp only [Option.some.injEq, Prod.mk.injEq] at H
          obtain ⟨rfl, rfl, rfl, rfl⟩ := H
          go_enter Try.func29, Try.ntmps29
          go_wp2_with (first | ((with_reducible refine gate_dst (N := 2) rfl ?_); refine box_event ?hg (N := 2) ?hd (cs := #[.int .u8 0, .slice none 0 0]) (t := 41) ?hr ?_; (case hd => rfl); (case hg => rfl); (case hr => first | (go_simp; done) | (go_simp; rfl)); intro gb412 hg w10 hbox hb; have BK412 := Aside0.mk (hbox); have GW412 := Aside0.mk ((by rw [hg]; exact (below_size (upB0 HB.out)) : w.heap.size ≤ gb412)); have GE412 := Aside0.mk ((by rw [hg]; exact (below_size (upB0 HB.out)) : w.heap.size ≤ gb412)); replace HB := Aside0.mk (below_step (upB0 HB.out) hb); clear hb hbox hg) | ((with_reducible refine gate_callee (f := 39) rfl ?_); refine goesL_ (some 15) rfl rfl Try.func39 (by kernel_rfl) rfl #[.slice A0 l0.length c0, .int .i64 1] rfl argA ?_; (with_reducible refine (plinthref01_GetText.calls k _ _ l0 1 t413 t414 t415 _ ?side1 ?side2 A5.out).mono ?_); (case side1 => exact upC ((Kd.C_below HR0.out HB.out))); (case side2 => exact HC0.out); rintro e w11 ⟨v416, rfl, ho0, hb⟩; refine ⟨_, rfl, ?_⟩; have HO417 := Aside0.mk (Kd.R_lower ho0 (below_size (upB1 HB.out GE412.out))); replace BK412 := Aside0.mk (blk_below (upK BK412.out) hb); replace HB := Aside0.mk (below_step (upB1 HB.out GE412.out) hb); (try clear hb); (try clear hb2); (try clear hk); (try clear hi); (try clear ho0); have p418 : 0 ≤ (0 : Int) := (by omega); have q418 : 0 < (l0.length : Int) := of_decide_eq_true (by first | (with_reducible assumption) | assumption); obtain ⟨ad418, e418, hx418_0⟩ := Kd.at_int HR0.out 0 p418 q418; cases e418; have qi418 : (0 < l0.length) = True := eq_true (by omega); (try rw [show ((0 : Int)).toNat = 0 from rfl] at hx418_0); (try rw [Addr.add_zero'] at hx418_0); replace hx418_0 := (HB.out.cell (World.block_lt_of_cell? w _ hx418_0)).trans hx418_0; replace p418 := eq_true p418; replace q418 := eq_true q418; obtain ⟨Ao12, co12, eo12⟩ := Kd.R_slice HO417.out; subst eo12) | ((with_reducible refine gate_dst (N := 8) rfl ?_); refine box_event ?hg (N := 8) ?hd (cs := #[.int .u8 0, .slice none 0 0]) (t := 41) ?hr ?_; (case hd => rfl); (case hg => rfl); (case hr => first | (go_simp; done) | (go_simp; rfl)); intro gb419 hg w13 hbox hb; replace HO417 := Aside0.mk (Kd.R_below (upR HO417.out) hb); have BK419 := Aside0.mk (hbox); have GW419 := Aside0.mk ((by rw [hg]; exact (below_size (upB1 HB.out GE412.out)) : w.heap.size ≤ gb419)); have GE419 := Aside0.mk ((by rw [hg]; exact (below_size (upB1 HB.out GE412.out)) : w.heap.size ≤ gb419)); replace HB := Aside0.mk (below_step (upB1 HB.out GE412.out) hb); have NB412_419 := Aside0.mk ((by rw [hg]; exact Nat.ne_of_lt (blk_lt (upK BK412.out)) : gb412 ≠ gb419)); have NB419_412 := Aside0.mk ((by rw [hg]; exact Nat.ne_of_gt (blk_lt (upK BK412.out)) : gb419 ≠ gb412)); replace BK412 := Aside0.mk (blk_below (upK BK412.out) hb); clear hb hbox hg; have hnb14 := NB419_412.out; have hnc14 := NB412_419.out; obtain ⟨hcz15_0, hcz15_1, hfz15_0, hfz15_1⟩ := cells2 BK419.out) | ((with_reducible refine gate_callee (f := 22) rfl ?_); refine goesL_ (some 30) rfl rfl Try.func22 (by kernel_rfl) rfl #[.agg #[.int .u8 (rd l0 0), .slice Ao12 t413.length co12]] rfl argA ?_; (with_reducible refine (plinthref04_Result.calls k (rd l0 0) _ _ t413 t420 _ ?side1 ?side2 A8.out).mono ?_); (case side1 => refine (Kd.R_reads' (e := 5) (base := w.heap.size) (ok := fun k_ => True) (n := t413.length) (c := co12) ?_).2.2; exact (by refine upR ?_; exact (fR2 (Kd.R_types HO417.out BK419.out (by decide))))); (case side2 => exact (Kd.R_reads' HO417.out).2.1); rintro e w16 ⟨rfl, hb⟩; refine ⟨_, rfl, ?_⟩; replace HO417 := Aside0.mk (Kd.R_below (by refine upR ?_; exact (fR2 (Kd.R_types HO417.out BK419.out (by decide)))) hb); replace BK412 := Aside0.mk (blk_below (g := gb412) (o := .cells #[.int .u8 0, .slice none 0 0] 41 (0, 0)) (by refine upK ?_; refine blk_far ?_ NB412_419.out _; refine upK ?_; refine blk_far ?_ NB412_419.out _; refine upK ?_; exact BK412.out) hb); replace BK419 := Aside0.mk (blk_below (g := gb419) (o := .cells #[.int .u8 (rd l0 0), .slice Ao12 t413.length co12] 41 (0, 0)) (by refine upK ?_; refine blk_put (cs := #[.int .u8 (rd l0 0), .slice none 0 0]) ?_ 1 _ rfl; refine upK ?_; refine blk_put (cs := #[.int .u8 0, .slice none 0 0]) ?_ 0 _ rfl; refine upK ?_; exact BK419.out) hb); replace HB := Aside0.mk (below_step (upB2 HB.out GE412.out GE419.out) hb); (try clear hb); (try clear hb2); (try clear hk); (try clear hi); obtain ⟨hcz17_0, hcz17_1, hfz17_0, hfz17_1⟩ := cells2 BK419.out; obtain ⟨hcz18_0, hcz18_1, hfz18_0, hfz18_1⟩ := cells2 BK412.out))
          refine bodyPost_ret (results_ctt rfl _ _ gb412 41 #[.int .u8 (rd l0 0), .slice Ao12 t413.length co12] (0, 0) _ rfl (by refine upK ?_; refine blk_put (cs := #[.int .u8 (rd l0 0), .slice none 0 0]) ?_ 1 _ rfl; refine upK ?_; refine blk_put (cs := #[.int .u8 0, .slice none 0 0]) ?_ 0 _ rfl; refine upK ?_; exact BK412.out) Try.underlying41 rfl (by kernel_rfl)) rfl ?_
          exact ⟨_, by first | rfl | (simp [errW_none, errW_some] <;> rfl) | (simp [*, errW_none, errW_some] <;> rfl), by refine upR ?_; exact Kd.R_mono (garR2 (g := gb412) (Kd.R_types HO417.out BK412.out (by decide)) 0 (.int .u8 (rd l0 0)) 1 (.slice Ao12 t413.length co12)) (fun _ hk => trivial), upB2 HB.out GE412.out GE419.out⟩
        · rw [if_neg c9] at H
          have c9b0 : (t420 == 0) = false := beq_eq_false_iff_ne.mpr c9
          have c9b1 : (t420 != 0) = true := bne_iff_ne.mpr c9
          simp only [Option.some.injEq, Prod.mk.injEq] at H
          obtain ⟨rfl, rfl, rfl, rfl⟩ := H
          go_enter Try.func29, Try.ntmps29
          go_wp2_with (first | ((with_reducible refine gate_dst (N := 2) rfl ?_); refine box_event ?hg (N := 2) ?hd (cs := #[.int .u8 0, .slice none 0 0]) (t := 41) ?hr ?_; (case hd => rfl); (case hg => rfl); (case hr => first | (go_simp; done) | (go_simp; rfl)); intro gb412 hg w19 hbox hb; have BK412 := Aside0.mk (hbox); have GW412 := Aside0.mk ((by rw [hg]; exact (below_size (upB0 HB.out)) : w.heap.size ≤ gb412)); have GE412 := Aside0.mk ((by rw [hg]; exact (below_size (upB0 HB.out)) : w.heap.size ≤ gb412)); replace HB := Aside0.mk (below_step (upB0 HB.out) hb); clear hb hbox hg) | ((with_reducible refine gate_callee (f := 39) rfl ?_); refine goesL_ (some 15) rfl rfl Try.func39 (by kernel_rfl) rfl #[.slice A0 l0.length c0, .int .i64 1] rfl argA ?_; (with_reducible refine (plinthref01_GetText.calls k _ _ l0 1 t413 t414 t415 _ ?side1 ?side2 A5.out).mono ?_); (case side1 => exact upC ((Kd.C_below HR0.out HB.out))); (case side2 => exact HC0.out); rintro e w20 ⟨v416, rfl, ho0, hb⟩; refine ⟨_, rfl, ?_⟩; have HO417 := Aside0.mk (Kd.R_lower ho0 (below_size (upB1 HB.out GE412.out))); replace BK412 := Aside0.mk (blk_below (upK BK412.out) hb); replace HB := Aside0.mk (below_step (upB1 HB.out GE412.out) hb); (try clear hb); (try clear hb2); (try clear hk); (try clear hi); (try clear ho0); have p418 : 0 ≤ (0 : Int) := (by omega); have q418 : 0 < (l0.length : Int) := of_decide_eq_true (by first | (with_reducible assumption) | assumption); obtain ⟨ad418, e418, hx418_0⟩ := Kd.at_int HR0.out 0 p418 q418; cases e418; have qi418 : (0 < l0.length) = True := eq_true (by omega); (try rw [show ((0 : Int)).toNat = 0 from rfl] at hx418_0); (try rw [Addr.add_zero'] at hx418_0); replace hx418_0 := (HB.out.cell (World.block_lt_of_cell? w _ hx418_0)).trans hx418_0; replace p418 := eq_true p418; replace q418 := eq_true q418; obtain ⟨Ao21, co21, eo21⟩ := Kd.R_slice HO417.out; subst eo21) | ((with_reducible refine gate_dst (N := 8) rfl ?_); refine box_event ?hg (N := 8) ?hd (cs := #[.int .u8 0, .slice none 0 0]) (t := 41) ?hr ?_; (case hd => rfl); (case hg => rfl); (case hr => first | (go_simp; done) | (go_simp; rfl)); intro gb419 hg w22 hbox hb; replace HO417 := Aside0.mk (Kd.R_below (upR HO417.out) hb); have BK419 := Aside0.mk (hbox); have GW419 := Aside0.mk ((by rw [hg]; exact (below_size (upB1 HB.out GE412.out)) : w.heap.size ≤ gb419)); have GE419 := Aside0.mk ((by rw [hg]; exact (below_size (upB1 HB.out GE412.out)) : w.heap.size ≤ gb419)); replace HB := Aside0.mk (below_step (upB1 HB.out GE412.out) hb); have NB412_419 := Aside0.mk ((by rw [hg]; exact Nat.ne_of_lt (blk_lt (upK BK412.out)) : gb412 ≠ gb419)); have NB419_412 := Aside0.mk ((by rw [hg]; exact Nat.ne_of_gt (blk_lt (upK BK412.out)) : gb419 ≠ gb412)); replace BK412 := Aside0.mk (blk_below (upK BK412.out) hb); clear hb hbox hg; have hnb23 := NB419_412.out; have hnc23 := NB412_419.out; obtain ⟨hcz24_0, hcz24_1, hfz24_0, hfz24_1⟩ := cells2 BK419.out) | ((with_reducible refine gate_callee (f := 22) rfl ?_); refine goesL_ (some 30) rfl rfl Try.func22 (by kernel_rfl) rfl #[.agg #[.int .u8 (rd l0 0), .slice Ao21 t413.length co21]] rfl argA ?_; (with_reducible refine (plinthref04_Result.calls k (rd l0 0) _ _ t413 t420 _ ?side1 ?side2 A8.out).mono ?_); (case side1 => refine (Kd.R_reads' (e := 5) (base := w.heap.size) (ok := fun k_ => True) (n := t413.length) (c := co21) ?_).2.2; exact (by refine upR ?_; exact (fR2 (Kd.R_types HO417.out BK419.out (by decide))))); (case side2 => exact (Kd.R_reads' HO417.out).2.1); rintro e w25 ⟨rfl, hb⟩; refine ⟨_, rfl, ?_⟩; replace HO417 := Aside0.mk (Kd.R_below (by refine upR ?_; exact (fR2 (Kd.R_types HO417.out BK419.out (by decide)))) hb); replace BK412 := Aside0.mk (blk_below (g := gb412) (o := .cells #[.int .u8 0, .slice none 0 0] 41 (0, 0)) (by refine upK ?_; refine blk_far ?_ NB412_419.out _; refine upK ?_; refine blk_far ?_ NB412_419.out _; refine upK ?_; exact BK412.out) hb); replace BK419 := Aside0.mk (blk_below (g := gb419) (o := .cells #[.int .u8 (rd l0 0), .slice Ao21 t413.length co21] 41 (0, 0)) (by refine upK ?_; refine blk_put (cs := #[.int .u8 (rd l0 0), .slice none 0 0]) ?_ 1 _ rfl; refine upK ?_; refine blk_put (cs := #[.int .u8 0, .slice none 0 0]) ?_ 0 _ rfl; refine upK ?_; exact BK419.out) hb); replace HB := Aside0.mk (below_step (upB2 HB.out GE412.out GE419.out) hb); (try clear hb); (try clear hb2); (try clear hk); (try clear hi); obtain ⟨hcz26_0, hcz26_1, hfz26_0, hfz26_1⟩ := cells2 BK412.out))
          refine bodyPost_ret (results_ctt rfl _ _ gb412 41 #[.int .u8 0, .slice none 0 0] (0, 0) _ rfl (by refine upK ?_; refine blk_put (cs := #[.int .u8 0, .slice none 0 0]) ?_ 1 _ rfl; refine upK ?_; refine blk_put (cs := #[.int .u8 0, .slice none 0 0]) ?_ 0 _ rfl; refine upK ?_; exact BK412.out) Try.underlying41 rfl (by kernel_rfl)) rfl ?_
          exact ⟨_, by first | rfl | (simp [errW_none, errW_some] <;> rfl) | (simp [*, errW_none, errW_some] <;> rfl), by first | exact Kd.R_nil _ _ _ _ _ | exact Kd.N_nil _ _ _ _ _ | exact Kd.V_nil _ _ _ _ _ | exact Kd.Q_nil _ _ _ _ _ | exact Kd.S_nil _ _ _ _ _, upB2 HB.out GE412.out GE419.out⟩
      · rw [if_neg c7] at H
        exact absurd H (by simp)
    · rw [if_neg c6] at H
      have c6b0 : (t415 == 0) = false := beq_eq_false_iff_ne.mpr c6
      have c6b1 : (t415 != 0) = true := bne_iff_ne.mpr c6
      replace H := Option.bind_eq_some_iff.mp H
      obtain ⟨t421, A270, H⟩ := H
      replace H : (some (0, ([] : List Int), 0, t421)) = some (r1, r2, r3, r4) := H
      have A27 := Aside0.mk A270
      clear A270
      simp only [Option.some.injEq, Prod.mk.injEq] at H
      obtain ⟨rfl, rfl, rfl, rfl⟩ := H
      go_enter Try.func29, Try.ntmps29
      go_wp2_with (first | ((with_reducible refine gate_dst (N := 2) rfl ?_); refine box_event ?hg (N := 2) ?hd (cs := #[.int .u8 0, .slice none 0 0]) (t := 41) ?hr ?_; (case hd => rfl); (case hg => rfl); (case hr => first | (go_simp; done) | (go_simp; rfl)); intro gb412 hg w28 hbox hb; have BK412 := Aside0.mk (hbox); have GW412 := Aside0.mk ((by rw [hg]; exact (below_size (upB0 HB.out)) : w.heap.size ≤ gb412)); have GE412 := Aside0.mk ((by rw [hg]; exact (below_size (upB0 HB.out)) : w.heap.size ≤ gb412)); replace HB := Aside0.mk (below_step (upB0 HB.out) hb); clear hb hbox hg) | ((with_reducible refine gate_callee (f := 39) rfl ?_); refine goesL_ (some 15) rfl rfl Try.func39 (by kernel_rfl) rfl #[.slice A0 l0.length c0, .int .i64 1] rfl argA ?_; (with_reducible refine (plinthref01_GetText.calls k _ _ l0 1 t413 t414 t415 _ ?side1 ?side2 A5.out).mono ?_); (case side1 => exact upC ((Kd.C_below HR0.out HB.out))); (case side2 => exact HC0.out); rintro e w29 ⟨v416, rfl, ho0, hb⟩; refine ⟨_, rfl, ?_⟩; have HO417 := Aside0.mk (Kd.R_lower ho0 (below_size (upB1 HB.out GE412.out))); replace BK412 := Aside0.mk (blk_below (upK BK412.out) hb); replace HB := Aside0.mk (below_step (upB1 HB.out GE412.out) hb); (try clear hb); (try clear hb2); (try clear hk); (try clear hi); (try clear ho0)) | ((with_reducible refine gate_callee (f := 40) rfl ?_); refine goesL_ (some 23) rfl rfl Try.func40 (by kernel_rfl) rfl #[.int .i64 t415] rfl argA ?_; (with_reducible refine (plinthref04_broken.calls t415 t421 _ A27.out).mono ?_); rintro e w' ⟨rfl, ⟨nd, rfl⟩⟩; refine ⟨_, rfl, ?_⟩; (try (rw [drewN_self w29]; generalize hq_ : World.drewN w29 _ = w29; have n0_ : Aside0 (Kd.R (Kd.int .u8) 5 w29 w.heap.size (fun _ => True) v416 t413) := ⟨by rw [← hq_]; exact (upR HO417.out)⟩; have n1_ : Aside0 (w29.heap[gb412]? = some (.cells #[.int .u8 0, .slice none 0 0] 41 (0, 0))) := ⟨by rw [← hq_]; exact (upK BK412.out)⟩; have n2_ : Aside0 (Below w.heap.size w w29) := ⟨by rw [← hq_]; exact (upB1 HB.out GE412.out)⟩; clear HO417 BK412 HB hq_; have HO417 := n0_; have BK412 := n1_; have HB := n2_; clear n0_ n1_ n2_)); obtain ⟨hcz30_0, hcz30_1, hfz30_0, hfz30_1⟩ := cells2 BK412.out))
      refine bodyPost_ret (results_ctt rfl _ _ gb412 41 #[.int .u8 0, .slice none 0 0] (0, 0) _ rfl (by refine upK ?_; refine blk_put (cs := #[.int .u8 0, .slice none 0 0]) ?_ 1 _ rfl; refine upK ?_; refine blk_put (cs := #[.int .u8 0, .slice none 0 0]) ?_ 0 _ rfl; refine upK ?_; exact BK412.out) Try.underlying41 rfl (by kernel_rfl)) rfl ?_
      exact ⟨_, by first | rfl | (simp [errW_none, errW_some] <;> rfl) | (simp [*, errW_none, errW_some] <;> rfl), by first | exact Kd.R_nil _ _ _ _ _ | exact Kd.N_nil _ _ _ _ _ | exact Kd.V_nil _ _ _ _ _ | exact Kd.Q_nil _ _ _ _ _ | exact Kd.S_nil _ _ _ _ _, upB1 HB.out GE412.out⟩

/-! ### plinthref04_SameResult: function 30 -/
def plinthref04_SameResult.f (a0_0 : Int) (l0_1 : List Int) (a1_0 : Int) (l1_1 : List Int) : Option (Bool) := if a0_0 = a1_0 then (some ((strOfNums l0_1).toList == (strOfNums l1_1).toList)) else (some false)
set_option maxHeartbeats 8000000 in
set_option maxRecDepth 100000 in
theorem plinthref04_SameResult.calls (a0_0 : Int) (A0_1 : Option Addr) (c0_1 : Nat) (l0_1 : List Int) (a1_0 : Int) (A1_1 : Option Addr) (c1_1 : Nat) (l1_1 : List Int) (r : Bool) (w : World) (hr0_1 : Kd.C (Kd.int .u8) w A0_1 l0_1.length l0_1) (hc0_1 : l0_1.length ≤ c0_1) (hr1_1 : Kd.C (Kd.int .u8) w A1_1 l1_1.length l1_1) (hc1_1 : l1_1.length ≤ c1_1) (h : plinthref04_SameResult.f a0_0 l0_1 a1_0 l1_1 = some r) :
    Calls Try.prog 30 #[.agg #[.int .u8 a0_0, .slice A0_1 l0_1.length c0_1], .agg #[.int .u8 a1_0, .slice A1_1 l1_1.length c1_1]] w fun e w' => e = .returned (.bool r) ∧ Below w.heap.size w w' := by
  have hu41 := Try.underlying41
  have HR0_1 := Aside0.mk hr0_1
  have HC0_1 := Aside0.mk hc0_1
  clear hr0_1 hc0_1
  have HR1_1 := Aside0.mk hr1_1
  have HC1_1 := Aside0.mk hc1_1
  clear hr1_1 hc1_1
  have HB := Aside0.mk (Below.refl w.heap.size w)
  have H : (if a0_0 = a1_0 then (some ((strOfNums l0_1).toList == (strOfNums l1_1).toList)) else (some false)) = some r := h
  clear h
  by_cases c3 : a0_0 = a1_0
  · rw [if_pos c3] at H
    have c3b0 : (a0_0 == a1_0) = true := beq_iff_eq.mpr c3
    have c3b1 : (a0_0 != a1_0) = false := bne_eq_false_iff_eq.mpr c3
    clear c3
    obtain rfl := Option.some.inj H
    go_enter Try.func30, Try.ntmps30
    go_wp2_with (first | ((with_reducible refine gate_dst (N := 2) rfl ?_); refine box_event ?hg (N := 2) ?hd (cs := #[.int .u8 a0_0, .slice A0_1 l0_1.length c0_1]) (t := 41) ?hr ?_; (case hd => rfl); (case hg => rfl); (case hr => first | (go_simp; done) | (go_simp; rfl)); intro gb422 hg w4 hbox hb; have BK422 := Aside0.mk (hbox); have GW422 := Aside0.mk ((by rw [hg]; exact (below_size (upB0 HB.out)) : w.heap.size ≤ gb422)); have GE422 := Aside0.mk ((by rw [hg]; exact (below_size (upB0 HB.out)) : w.heap.size ≤ gb422)); replace HB := Aside0.mk (below_step (upB0 HB.out) hb); clear hb hbox hg) | ((with_reducible refine gate_dst (N := 3) rfl ?_); refine box_event ?hg (N := 3) ?hd (cs := #[.int .u8 a1_0, .slice A1_1 l1_1.length c1_1]) (t := 41) ?hr ?_; (case hd => rfl); (case hg => rfl); (case hr => first | (go_simp; done) | (go_simp; rfl)); intro gb423 hg w5 hbox hb; have BK423 := Aside0.mk (hbox); have GW423 := Aside0.mk ((by rw [hg]; exact (below_size (upB1 HB.out GE422.out)) : w.heap.size ≤ gb423)); have GE423 := Aside0.mk ((by rw [hg]; exact (below_size (upB1 HB.out GE422.out)) : w.heap.size ≤ gb423)); replace HB := Aside0.mk (below_step (upB1 HB.out GE422.out) hb); have NB422_423 := Aside0.mk ((by rw [hg]; exact Nat.ne_of_lt (blk_lt (upK BK422.out)) : gb422 ≠ gb423)); have NB423_422 := Aside0.mk ((by rw [hg]; exact Nat.ne_of_gt (blk_lt (upK BK422.out)) : gb423 ≠ gb422)); replace BK422 := Aside0.mk (blk_below (upK BK422.out) hb); clear hb hbox hg; have hnb6 := NB422_423.out; have hnc6 := NB423_422.out; obtain ⟨hcz7_0, hcz7_1, hfz7_0, hfz7_1⟩ := cells2 BK422.out; obtain ⟨hcz8_0, hcz8_1, hfz8_0, hfz8_1⟩ := cells2 BK423.out; have hcv9 := Kd.C_string (P := Try.prog) (A := A0_1) (c := c0_1) Try.underlying25 Try.underlying5 Try.underlying9 (Kd.C_below HR0_1.out HB.out); have hcvd10 := fun (n_ : Nat) => Kd.C_string (P := Try.prog) (A := A0_1) (c := c0_1) Try.underlying25 Try.underlying5 Try.underlying9 (Kd.C_drewN (Kd.C_below HR0_1.out HB.out) n_); have hcv11 := Kd.C_string (P := Try.prog) (A := A1_1) (c := c1_1) Try.underlying25 Try.underlying5 Try.underlying9 (Kd.C_below HR1_1.out HB.out); have hcvd12 := fun (n_ : Nat) => Kd.C_string (P := Try.prog) (A := A1_1) (c := c1_1) Try.underlying25 Try.underlying5 Try.underlying9 (Kd.C_drewN (Kd.C_below HR1_1.out HB.out) n_)))
    go_ret
    exact ⟨by first | rfl | (simp [errW_none, errW_some] <;> rfl) | (simp [*, errW_none, errW_some] <;> rfl), upB2 HB.out GE422.out GE423.out⟩
  · rw [if_neg c3] at H
    have c3b0 : (a0_0 == a1_0) = false := beq_eq_false_iff_ne.mpr c3
    have c3b1 : (a0_0 != a1_0) = true := bne_iff_ne.mpr c3
    obtain rfl := Option.some.inj H
    go_enter Try.func30, Try.ntmps30
    go_wp2_with (first | ((with_reducible refine gate_dst (N := 2) rfl ?_); refine box_event ?hg (N := 2) ?hd (cs := #[.int .u8 a0_0, .slice A0_1 l0_1.length c0_1]) (t := 41) ?hr ?_; (case hd => rfl); (case hg => rfl); (case hr => first | (go_simp; done) | (go_simp; rfl)); intro gb422 hg w13 hbox hb; have BK422 := Aside0.mk (hbox); have GW422 := Aside0.mk ((by rw [hg]; exact (below_size (upB0 HB.out)) : w.heap.size ≤ gb422)); have GE422 := Aside0.mk ((by rw [hg]; exact (below_size (upB0 HB.out)) : w.heap.size ≤ gb422)); replace HB := Aside0.mk (below_step (upB0 HB.out) hb); clear hb hbox hg) | ((with_reducible refine gate_dst (N := 3) rfl ?_); refine box_event ?hg (N := 3) ?hd (cs := #[.int .u8 a1_0, .slice A1_1 l1_1.length c1_1]) (t := 41) ?hr ?_; (case hd => rfl); (case hg => rfl); (case hr => first | (go_simp; done) | (go_simp; rfl)); intro gb423 hg w14 hbox hb; have BK423 := Aside0.mk (hbox); have GW423 := Aside0.mk ((by rw [hg]; exact (below_size (upB1 HB.out GE422.out)) : w.heap.size ≤ gb423)); have GE423 := Aside0.mk ((by rw [hg]; exact (below_size (upB1 HB.out GE422.out)) : w.heap.size ≤ gb423)); replace HB := Aside0.mk (below_step (upB1 HB.out GE422.out) hb); have NB422_423 := Aside0.mk ((by rw [hg]; exact Nat.ne_of_lt (blk_lt (upK BK422.out)) : gb422 ≠ gb423)); have NB423_422 := Aside0.mk ((by rw [hg]; exact Nat.ne_of_gt (blk_lt (upK BK422.out)) : gb423 ≠ gb422)); replace BK422 := Aside0.mk (blk_below (upK BK422.out) hb); clear hb hbox hg; have hnb15 := NB422_423.out; have hnc15 := NB423_422.out; obtain ⟨hcz16_0, hcz16_1, hfz16_0, hfz16_1⟩ := cells2 BK422.out; obtain ⟨hcz17_0, hcz17_1, hfz17_0, hfz17_1⟩ := cells2 BK423.out))
    go_ret
    exact ⟨by first | rfl | (simp [errW_none, errW_some] <;> rfl) | (simp [*, errW_none, errW_some] <;> rfl), upB2 HB.out GE422.out GE423.out⟩

end Go.Proofs.Ytogjpilkgghidaa.F
