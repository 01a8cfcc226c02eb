-- Written by ext (this session's own program).
import Derived.Test.YtogjpilkgghidaaFx0
import Derived.Test.YtogjpilkgghidaaFx8
import Derived.Test.YtogjpilkgghidaaFx11
import Derived.Test.YtogjpilkgghidaaFx12
import Derived.Test.YtogjpilkgghidaaFx13
import Derived.Test.YtogjpilkgghidaaFx19
import Derived.Test.YtogjpilkgghidaaFx24
import Derived.Test.YtogjpilkgghidaaFx25
namespace Go.Proofs.Ytogjpilkgghidaa.F
open Go.RowKit Go.Proofs.YtogjpilkgghidaaW.PrintWords Go.Proofs.YtogjpilkgghidaaW.PrintLast Go.Proofs.YtogjpilkgghidaaW.PrintMore
attribute [local go_sem] max2_int min2_int max_two min_two max_three min_three max_four min_four   -- for this text's walks alone
set_option linter.unusedVariables false
set_option linter.unusedSimpArgs false

/-! ### block_EncodeResult: function 26 -/
def block_EncodeResult.f (k : Nat) (a0_0 : Int) (l0_1 : List Int) : Option (List Int × Int) := (block_Result.f k a0_0 l0_1).bind fun t379 => (if t379 = 0 then ((octets_PutText.f k (([a0_0] : List Int)) l0_1).bind fun bt383 => (some (bt383.1, bt383.2))) else (some (([] : List Int), t379)))
theorem block_EncodeResult.mono : ∀ a0 a1 k, LeO (block_EncodeResult.f k a0 a1) (block_EncodeResult.f (k + 1) a0 a1) := by
  intro a0 a1 k
  unfold block_EncodeResult.f
  repeat' first
      | (with_reducible exact block_Result.mono _ _ _)
      | (with_reducible exact octets_PutText.mono _ _ _)
      | (with_reducible exact LeO.refl _)
      | (with_reducible exact LeO.none _)
      | (with_reducible refine LeO.ite ?_ ?_)
      | (with_reducible refine LeO.bind ?_ (fun _ => ?_))
      | exact block_Result.mono _ _ _
      | exact octets_PutText.mono _ _ _
      | exact LeO.none _
      | refine LeO.ite ?_ ?_
      | refine LeO.bind ?_ (fun _ => ?_)
set_option maxHeartbeats 8000000 in
set_option maxRecDepth 100000 in
theorem block_EncodeResult.calls (k : Nat) (a0_0 : Int) (A0_1 : Option Addr) (c0_1 : Nat) (l0_1 : List Int) (r1 : List Int) (r2 : Int) (w : World) (hr0_1 : Kd.C (Kd.int .u8) w A0_1 l0_1.length l0_1) (hc0_1 : l0_1.length ≤ c0_1) (h : block_EncodeResult.f k a0_0 l0_1 = some (r1, r2)) :
    Calls Try.prog 26 #[.agg #[.int .u8 a0_0, .slice A0_1 l0_1.length c0_1]] w fun e w' => ∃ v0_ : Value, e = .returned (.tuple #[v0_, .int .i64 r2]) ∧ Kd.R (Kd.int .u8) 5 w' w.heap.size (fun _ => True) v0_ r1 ∧ Below w.heap.size w w' := by
  have hu41 := Try.underlying41
  have HR0_1 := Aside0.mk hr0_1
  have HC0_1 := Aside0.mk hc0_1
  clear hr0_1 hc0_1
  have HB := Aside0.mk (Below.refl w.heap.size w)
  have H : ((block_Result.f k a0_0 l0_1).bind fun t379 => (if t379 = 0 then ((octets_PutText.f k (([a0_0] : List Int)) l0_1).bind fun bt383 => (some (bt383.1, bt383.2))) else (some (([] : List Int), t379)))) = some (r1, r2) := h
  clear h
  replace H := Option.bind_eq_some_iff.mp H
  obtain ⟨t379, A20, H⟩ := H
  replace H : (if t379 = 0 then ((octets_PutText.f k (([a0_0] : List Int)) l0_1).bind fun bt383 => (some (bt383.1, bt383.2))) else (some (([] : List Int), t379))) = some (r1, r2) := H
  have A2 := Aside0.mk A20
  clear A20
  by_cases c3 : t379 = 0
  · rw [if_pos c3] at H
    have c3b0 : (t379 == 0) = true := beq_iff_eq.mpr c3
    have c3b1 : (t379 != 0) = false := bne_eq_false_iff_eq.mpr c3
    clear c3
    obtain ⟨y380, hy380⟩ : ∃ y_ : List Int, y_ = (([a0_0] : List Int)) := ⟨_, rfl⟩
    replace H : ((octets_PutText.f k y380 l0_1).bind fun bt383 => (some (bt383.1, bt383.2))) = some (r1, r2) := by first | (rw [hy380]; with_reducible exact H) | (have H2_ := (Option.bind_some _ _).symm.trans H; rw [hy380]; with_reducible exact H2_) | (have H2_ := (Option.bind_some _ _).symm.trans H; with_reducible exact H2_) | with_reducible exact H | (rw [hy380]; exact H) | exact H
    have Ny380 := Aside0.mk hy380
    clear hy380
    replace H := Option.bind_eq_some_iff.mp H
    obtain ⟨⟨t383, t384⟩, A40, H⟩ := H
    replace H : (some (t383, t384)) = some (r1, r2) := H
    have A4 := Aside0.mk A40
    clear A40
    simp only [Option.some.injEq, Prod.mk.injEq] at H
    obtain ⟨rfl, rfl⟩ := H
    go_enter Try.func26, Try.ntmps26
    go_wp2_with (first | ((with_reducible refine gate_dst (N := 1) rfl ?_); refine box_event ?hg (N := 1) ?hd (cs := #[.int .u8 a0_0, .slice A0_1 l0_1.length c0_1]) (t := 41) ?hr ?_; (case hd => rfl); (case hg => rfl); (case hr => first | (go_simp; done) | (go_simp; rfl)); intro gb378 hg w5 hbox hb; have BK378 := Aside0.mk (hbox); have GW378 := Aside0.mk ((by rw [hg]; exact (below_size (upB0 HB.out)) : w.heap.size ≤ gb378)); have GE378 := Aside0.mk ((by rw [hg]; exact (below_size (upB0 HB.out)) : w.heap.size ≤ gb378)); replace HB := Aside0.mk (below_step (upB0 HB.out) hb); clear hb hbox hg; obtain ⟨hcz6_0, hcz6_1, hfz6_0, hfz6_1⟩ := cells2 BK378.out) | ((with_reducible refine gate_callee (f := 21) rfl ?_); refine goesL_ (some 6) rfl rfl Try.func21 (by kernel_rfl) rfl #[.agg #[.int .u8 a0_0, .slice A0_1 l0_1.length c0_1]] rfl argA ?_; (with_reducible refine (block_Result.calls k a0_0 _ _ l0_1 t379 _ ?side1 ?side2 A2.out).mono ?_); (case side1 => exact upC ((Kd.C_below HR0_1.out HB.out))); (case side2 => exact HC0_1.out); rintro e w7 ⟨rfl, hb⟩; refine ⟨_, rfl, ?_⟩; replace BK378 := Aside0.mk (blk_below (upK BK378.out) hb); replace HB := Aside0.mk (below_step (upB1 HB.out GE378.out) hb); (try clear hb); (try clear hb2); (try clear hk); (try clear hi); obtain ⟨hcz8_0, hcz8_1, hfz8_0, hfz8_1⟩ := cells2 BK378.out) | ((with_reducible refine gate_dst (N := 12) rfl ?_); refine Kd.R_lit (Kd.int .u8) _ 5 ?hg (N := 12) ?hd (xs := ([a0_0] : List Int)) (inner := [.int .u8 a0_0]) (ok := fun _ => True) (okp := fun _ => True) ?hr ?hp (fun _ hk => hk) trivial (Below.refl _ _) (Nat.le_refl _) (by simp) ?_; (case hd => rfl); (case hg => rfl); (case hr => first | (go_simp; done) | (go_simp; rfl)); (case hp => exact (Reps.one (show Kd.M (Kd.int .u8) _ _ _ a0_0 [.int .u8 a0_0] from rfl) (Reps.none _ _))); intro v381 w9 ho10 hb hg_ hnew_; clear hg_ hnew_; (first | rw [← Ny380.out] at ho10 | (simp only [Int.reduceToNat] at ho10; rw [← Ny380.out] at ho10)); have HO382 := Aside0.mk (Kd.R_lower ho10 (below_size (upB1 HB.out GE378.out))); replace BK378 := Aside0.mk (blk_below (upK BK378.out) hb); replace HB := Aside0.mk (below_step (upB1 HB.out GE378.out) hb); clear hb ho10; obtain ⟨hcz11_0, hcz11_1, hfz11_0, hfz11_1⟩ := cells2 BK378.out; obtain ⟨Ao12, co12, eo12⟩ := Kd.R_slice HO382.out; subst eo12) | ((with_reducible refine gate_callee (f := 32) rfl ?_); refine goesL_ (some 15) rfl rfl Try.func32 (by kernel_rfl) rfl #[.slice Ao12 y380.length co12, .slice A0_1 l0_1.length c0_1] rfl argA ?_; (with_reducible refine (octets_PutText.calls k _ _ y380 _ _ l0_1 t383 t384 _ ?side1 ?side2 ?side3 ?side4 A4.out).mono ?_); (case side1 => exact upC ((Kd.R_reads' HO382.out).2.2)); (case side2 => exact (Kd.R_reads' HO382.out).2.1); (case side3 => exact upC ((Kd.C_below HR0_1.out HB.out))); (case side4 => exact HC0_1.out); rintro e w13 ⟨v385, rfl, ho0, hb⟩; refine ⟨_, rfl, ?_⟩; have HO386 := Aside0.mk (Kd.R_lower (Kd.R_new' ho0 (Kd.R_lt (upR HO382.out))) (below_size (upB1 HB.out GE378.out))); replace HO382 := Aside0.mk (Kd.R_elder' (upR HO382.out) (Kd.R_base ho0) hb); replace BK378 := Aside0.mk (blk_below (upK BK378.out) hb); replace HB := Aside0.mk (below_step (upB1 HB.out GE378.out) hb); (try clear hb); (try clear hb2); (try clear hk); (try clear hi); (try clear ho0)))
    go_ret2
    exact ⟨_, by first | rfl | (simp [errW_none, errW_some] <;> rfl) | (simp [*, errW_none, errW_some] <;> rfl), by refine upR ?_; exact Kd.R_mono HO386.out (fun _ hk => trivial), upB1 HB.out GE378.out⟩
  · rw [if_neg c3] at H
    have c3b0 : (t379 == 0) = false := beq_eq_false_iff_ne.mpr c3
    have c3b1 : (t379 != 0) = true := bne_iff_ne.mpr c3
    simp only [Option.some.injEq, Prod.mk.injEq] at H
    obtain ⟨rfl, rfl⟩ := H
    go_enter Try.func26, Try.ntmps26
    go_wp2_with (first | ((with_reducible refine gate_dst (N := 1) rfl ?_); refine box_event ?hg (N := 1) ?hd (cs := #[.int .u8 a0_0, .slice A0_1 l0_1.length c0_1]) (t := 41) ?hr ?_; (case hd => rfl); (case hg => rfl); (case hr => first | (go_simp; done) | (go_simp; rfl)); intro gb378 hg w14 hbox hb; have BK378 := Aside0.mk (hbox); have GW378 := Aside0.mk ((by rw [hg]; exact (below_size (upB0 HB.out)) : w.heap.size ≤ gb378)); have GE378 := Aside0.mk ((by rw [hg]; exact (below_size (upB0 HB.out)) : w.heap.size ≤ gb378)); replace HB := Aside0.mk (below_step (upB0 HB.out) hb); clear hb hbox hg; obtain ⟨hcz15_0, hcz15_1, hfz15_0, hfz15_1⟩ := cells2 BK378.out) | ((with_reducible refine gate_callee (f := 21) rfl ?_); refine goesL_ (some 6) rfl rfl Try.func21 (by kernel_rfl) rfl #[.agg #[.int .u8 a0_0, .slice A0_1 l0_1.length c0_1]] rfl argA ?_; (with_reducible refine (block_Result.calls k a0_0 _ _ l0_1 t379 _ ?side1 ?side2 A2.out).mono ?_); (case side1 => exact upC ((Kd.C_below HR0_1.out HB.out))); (case side2 => exact HC0_1.out); rintro e w16 ⟨rfl, hb⟩; refine ⟨_, rfl, ?_⟩; replace BK378 := Aside0.mk (blk_below (upK BK378.out) hb); replace HB := Aside0.mk (below_step (upB1 HB.out GE378.out) hb); (try clear hb); (try clear hb2); (try clear hk); (try clear hi)))
    go_ret2
    exact ⟨_, by first | rfl | (simp [errW_none, errW_some] <;> rfl) | (simp [*, errW_none, errW_some] <;> rfl), by first | exact Kd.R_nil _ _ _ _ _ | exact Kd.N_nil _ _ _ _ _ | exact Kd.V_nil _ _ _ _ _ | exact Kd.Q_nil _ _ _ _ _ | exact Kd.S_nil _ _ _ _ _, upB1 HB.out GE378.out⟩

/-! ### plinthref04_EncodeResult: function 27 -/
def plinthref04_EncodeResult.f (k : Nat) (a0_0 : Int) (l0_1 : List Int) : Option (List Int × Int) := (plinthref04_Result.f k a0_0 l0_1).bind fun t388 => (if t388 = 0 then ((plinthref01_PutText.f k (([a0_0] : List Int)) l0_1).bind fun bt392 => (some (bt392.1, 0))) else (some (([] : List Int), t388)))
theorem plinthref04_EncodeResult.mono : ∀ a0 a1 k, LeO (plinthref04_EncodeResult.f k a0 a1) (plinthref04_EncodeResult.f (k + 1) a0 a1) := by
  intro a0 a1 k
  unfold plinthref04_EncodeResult.f
  repeat' first
      | (with_reducible exact plinthref01_PutText.mono _ _ _)
      | (with_reducible exact plinthref04_Result.mono _ _ _)
      | (with_reducible exact LeO.refl _)
      | (with_reducible exact LeO.none _)
      | (with_reducible refine LeO.ite ?_ ?_)
      | (with_reducible refine LeO.bind ?_ (fun _ => ?_))
      | exact plinthref01_PutText.mono _ _ _
      | exact plinthref04_Result.mono _ _ _
      | exact LeO.none _
      | refine LeO.ite ?_ ?_
      | refine LeO.bind ?_ (fun _ => ?_)
set_option maxHeartbeats 8000000 in
set_option maxRecDepth 100000 in
theorem plinthref04_EncodeResult.calls (k : Nat) (a0_0 : Int) (A0_1 : Option Addr) (c0_1 : Nat) (l0_1 : List Int) (r1 : List Int) (r2 : Int) (w : World) (hr0_1 : Kd.C (Kd.int .u8) w A0_1 l0_1.length l0_1) (hc0_1 : l0_1.length ≤ c0_1) (h : plinthref04_EncodeResult.f k a0_0 l0_1 = some (r1, r2)) :
    Calls Try.prog 27 #[.agg #[.int .u8 a0_0, .slice A0_1 l0_1.length c0_1]] w fun e w' => ∃ v0_ : Value, e = .returned (.tuple #[v0_, .int .i64 r2]) ∧ Kd.R (Kd.int .u8) 5 w' w.heap.size (fun _ => True) v0_ r1 ∧ Below w.heap.size w w' := by
  have hu41 := Try.underlying41
  have HR0_1 := Aside0.mk hr0_1
  have HC0_1 := Aside0.mk hc0_1
  clear hr0_1 hc0_1
  have HB := Aside0.mk (Below.refl w.heap.size w)
  have H : ((plinthref04_Result.f k a0_0 l0_1).bind fun t388 => (if t388 = 0 then ((plinthref01_PutText.f k (([a0_0] : List Int)) l0_1).bind fun bt392 => (some (bt392.1, 0))) else (some (([] : List Int), t388)))) = some (r1, r2) := h
  clear h
  replace H := Option.bind_eq_some_iff.mp H
  obtain ⟨t388, A20, H⟩ := H
  replace H : (if t388 = 0 then ((plinthref01_PutText.f k (([a0_0] : List Int)) l0_1).bind fun bt392 => (some (bt392.1, 0))) else (some (([] : List Int), t388))) = some (r1, r2) := H
  have A2 := Aside0.mk A20
  clear A20
  by_cases c3 : t388 = 0
  · rw [if_pos c3] at H
    have c3b0 : (t388 == 0) = true := beq_iff_eq.mpr c3
    have c3b1 : (t388 != 0) = false := bne_eq_false_iff_eq.mpr c3
    clear c3
    obtain ⟨y389, hy389⟩ : ∃ y_ : List Int, y_ = (([a0_0] : List Int)) := ⟨_, rfl⟩
    replace H : ((plinthref01_PutText.f k y389 l0_1).bind fun bt392 => (some (bt392.1, 0))) = some (r1, r2) := by first | (rw [hy389]; with_reducible exact H) | (have H2_ := (Option.bind_some _ _).symm.trans H; rw [hy389]; with_reducible exact H2_) | (have H2_ := (Option.bind_some _ _).symm.trans H; with_reducible exact H2_) | with_reducible exact H | (rw [hy389]; exact H) | exact H
    have Ny389 := Aside0.mk hy389
    clear hy389
    replace H := Option.bind_eq_some_iff.mp H
    obtain ⟨⟨t392, t393⟩, A40, H⟩ := H
    replace H : (some (t392, 0)) = some (r1, r2) := H
    have A4 := Aside0.mk A40
    clear A40
    simp only [Option.some.injEq, Prod.mk.injEq] at H
    obtain ⟨rfl, rfl⟩ := H
    go_enter Try.func27, Try.ntmps27
    go_wp2_with (first | ((with_reducible refine gate_dst (N := 1) rfl ?_); refine box_event ?hg (N := 1) ?hd (cs := #[.int .u8 a0_0, .slice A0_1 l0_1.length c0_1]) (t := 41) ?hr ?_; (case hd => rfl); (case hg => rfl); (case hr => first | (go_simp; done) | (go_simp; rfl)); intro gb387 hg w5 hbox hb; have BK387 := Aside0.mk (hbox); have GW387 := Aside0.mk ((by rw [hg]; exact (below_size (upB0 HB.out)) : w.heap.size ≤ gb387)); have GE387 := Aside0.mk ((by rw [hg]; exact (below_size (upB0 HB.out)) : w.heap.size ≤ gb387)); replace HB := Aside0.mk (below_step (upB0 HB.out) hb); clear hb hbox hg; obtain ⟨hcz6_0, hcz6_1, hfz6_0, hfz6_1⟩ := cells2 BK387.out) | ((with_reducible refine gate_callee (f := 22) rfl ?_); refine goesL_ (some 8) rfl rfl Try.func22 (by kernel_rfl) rfl #[.agg #[.int .u8 a0_0, .slice A0_1 l0_1.length c0_1]] rfl argA ?_; (with_reducible refine (plinthref04_Result.calls k a0_0 _ _ l0_1 t388 _ ?side1 ?side2 A2.out).mono ?_); (case side1 => exact upC ((Kd.C_below HR0_1.out HB.out))); (case side2 => exact HC0_1.out); rintro e w7 ⟨rfl, hb⟩; refine ⟨_, rfl, ?_⟩; replace BK387 := Aside0.mk (blk_below (upK BK387.out) hb); replace HB := Aside0.mk (below_step (upB1 HB.out GE387.out) hb); (try clear hb); (try clear hb2); (try clear hk); (try clear hi); obtain ⟨hcz8_0, hcz8_1, hfz8_0, hfz8_1⟩ := cells2 BK387.out) | ((with_reducible refine gate_dst (N := 15) rfl ?_); refine Kd.R_lit (Kd.int .u8) _ 5 ?hg (N := 15) ?hd (xs := ([a0_0] : List Int)) (inner := [.int .u8 a0_0]) (ok := fun _ => True) (okp := fun _ => True) ?hr ?hp (fun _ hk => hk) trivial (Below.refl _ _) (Nat.le_refl _) (by simp) ?_; (case hd => rfl); (case hg => rfl); (case hr => first | (go_simp; done) | (go_simp; rfl)); (case hp => exact (Reps.one (show Kd.M (Kd.int .u8) _ _ _ a0_0 [.int .u8 a0_0] from rfl) (Reps.none _ _))); intro v390 w9 ho10 hb hg_ hnew_; clear hg_ hnew_; (first | rw [← Ny389.out] at ho10 | (simp only [Int.reduceToNat] at ho10; rw [← Ny389.out] at ho10)); have HO391 := Aside0.mk (Kd.R_lower ho10 (below_size (upB1 HB.out GE387.out))); replace BK387 := Aside0.mk (blk_below (upK BK387.out) hb); replace HB := Aside0.mk (below_step (upB1 HB.out GE387.out) hb); clear hb ho10; obtain ⟨hcz11_0, hcz11_1, hfz11_0, hfz11_1⟩ := cells2 BK387.out; obtain ⟨Ao12, co12, eo12⟩ := Kd.R_slice HO391.out; subst eo12) | ((with_reducible refine gate_callee (f := 34) rfl ?_); refine goesL_ (some 18) rfl rfl Try.func34 (by kernel_rfl) rfl #[.slice Ao12 y389.length co12, .slice A0_1 l0_1.length c0_1] rfl argA ?_; (with_reducible refine (plinthref01_PutText.calls k _ _ y389 _ _ l0_1 t392 t393 _ ?side1 ?side2 ?side3 ?side4 A4.out).mono ?_); (case side1 => exact upC ((Kd.R_reads' HO391.out).2.2)); (case side2 => exact (Kd.R_reads' HO391.out).2.1); (case side3 => exact upC ((Kd.C_below HR0_1.out HB.out))); (case side4 => exact HC0_1.out); rintro e w13 ⟨v394, rfl, ho0, hb⟩; refine ⟨_, rfl, ?_⟩; have HO395 := Aside0.mk (Kd.R_lower (Kd.R_new' ho0 (Kd.R_lt (upR HO391.out))) (below_size (upB1 HB.out GE387.out))); replace HO391 := Aside0.mk (Kd.R_elder' (upR HO391.out) (Kd.R_base ho0) hb); replace BK387 := Aside0.mk (blk_below (upK BK387.out) hb); replace HB := Aside0.mk (below_step (upB1 HB.out GE387.out) hb); (try clear hb); (try clear hb2); (try clear hk); (try clear hi); (try clear ho0)))
    go_ret2
    exact ⟨_, by first | rfl | (simp [errW_none, errW_some] <;> rfl) | (simp [*, errW_none, errW_some] <;> rfl), by refine upR ?_; exact Kd.R_mono HO395.out (fun _ hk => trivial), upB1 HB.out GE387.out⟩
  · rw [if_neg c3] at H
    have c3b0 : (t388 == 0) = false := beq_eq_false_iff_ne.mpr c3
    have c3b1 : (t388 != 0) = true := bne_iff_ne.mpr c3
    simp only [Option.some.injEq, Prod.mk.injEq] at H
    obtain ⟨rfl, rfl⟩ := H
    go_enter Try.func27, Try.ntmps27
    go_wp2_with (first | ((with_reducible refine gate_dst (N := 1) rfl ?_); refine box_event ?hg (N := 1) ?hd (cs := #[.int .u8 a0_0, .slice A0_1 l0_1.length c0_1]) (t := 41) ?hr ?_; (case hd => rfl); (case hg => rfl); (case hr => first | (go_simp; done) | (go_simp; rfl)); intro gb387 hg w14 hbox hb; have BK387 := Aside0.mk (hbox); have GW387 := Aside0.mk ((by rw [hg]; exact (below_size (upB0 HB.out)) : w.heap.size ≤ gb387)); have GE387 := Aside0.mk ((by rw [hg]; exact (below_size (upB0 HB.out)) : w.heap.size ≤ gb387)); replace HB := Aside0.mk (below_step (upB0 HB.out) hb); clear hb hbox hg; obtain ⟨hcz15_0, hcz15_1, hfz15_0, hfz15_1⟩ := cells2 BK387.out) | ((with_reducible refine gate_callee (f := 22) rfl ?_); refine goesL_ (some 8) rfl rfl Try.func22 (by kernel_rfl) rfl #[.agg #[.int .u8 a0_0, .slice A0_1 l0_1.length c0_1]] rfl argA ?_; (with_reducible refine (plinthref04_Result.calls k a0_0 _ _ l0_1 t388 _ ?side1 ?side2 A2.out).mono ?_); (case side1 => exact upC ((Kd.C_below HR0_1.out HB.out))); (case side2 => exact HC0_1.out); rintro e w16 ⟨rfl, hb⟩; refine ⟨_, rfl, ?_⟩; replace BK387 := Aside0.mk (blk_below (upK BK387.out) hb); replace HB := Aside0.mk (below_step (upB1 HB.out GE387.out) hb); (try clear hb); (try clear hb2); (try clear hk); (try clear hi)))
    go_ret2
    exact ⟨_, by first | rfl | (simp [errW_none, errW_some] <;> rfl) | (simp [*, errW_none, errW_some] <;> rfl), by first | exact Kd.R_nil _ _ _ _ _ | exact Kd.N_nil _ _ _ _ _ | exact Kd.V_nil _ _ _ _ _ | exact Kd.Q_nil _ _ _ _ _ | exact Kd.S_nil _ _ _ _ _, upB1 HB.out GE387.out⟩

/-! ### block_DecodeResult: function 28 -/
theorem block_DecodeResult.ups0 {p q r0 : Prop} (a : p) (g0_ : r0) (h : p → r0 → q := by intro h_ g0_; repeat (first | (with_reducible first | exact h_ | apply IsS60.alloc | apply IsS60.drewN | apply IsS60.drew | apply IsS60.set_1 | apply IsS60.set_2 | refine IsS60.far ?_ g0_ _) | exact h_)) : q := h a g0_
theorem block_DecodeResult.ups1 {p q r0 r1 : Prop} (a : p) (g0_ : r0) (g1_ : r1) (h : p → r0 → r1 → q := by intro h_ g0_ g1_; repeat (first | (with_reducible first | exact h_ | apply IsS60.alloc | apply IsS60.drewN | apply IsS60.drew | apply IsS60.set_1 | apply IsS60.set_2 | refine IsS60.far ?_ g0_ _ | refine IsS60.far ?_ g1_ _) | exact h_)) : q := h a g0_ g1_
def block_DecodeResult.f (k : Nat) (l0 : List Int) : Option (Int × List Int × Int × Int) := (block_left_number.f k l0 0 0 1).bind fun bt398 => ((block_left_text.f k l0 bt398.2.1 bt398.2.2).bind fun bt402 => ((block_Result.f k ((bt398.1) % 256) bt402.1).bind fun t407 => ((block_reader_end.f l0 bt402.2.1 bt402.2.2 t407).bind fun bt408 => (if bt408.2.1 = 0 then (some ((bt398.1) % 256, bt402.1, bt408.1, 0)) else (some (0, ([] : List Int), 0, bt408.2.1))))))
theorem block_DecodeResult.mono : ∀ a0 k, LeO (block_DecodeResult.f k a0) (block_DecodeResult.f (k + 1) a0) := by
  intro a0 k
  unfold block_DecodeResult.f
  repeat' first
      | (with_reducible exact block_Result.mono _ _ _)
      | (with_reducible exact block_left_number.mono _ _ _ _ _)
      | (with_reducible exact block_left_text.mono _ _ _ _)
      | (with_reducible exact LeO.refl _)
      | (with_reducible exact LeO.none _)
      | (with_reducible refine LeO.ite ?_ ?_)
      | (with_reducible refine LeO.bind ?_ (fun _ => ?_))
      | exact block_Result.mono _ _ _
      | exact block_left_number.mono _ _ _ _ _
      | exact block_left_text.mono _ _ _ _
      | exact LeO.none _
      | refine LeO.ite ?_ ?_
      | refine LeO.bind ?_ (fun _ => ?_)
set_option maxHeartbeats 8000000 in
set_option maxRecDepth 100000 in
theorem block_DecodeResult.calls (k : Nat) (A0 : Option Addr) (c0 : Nat) (l0 : List Int) (r1 : Int) (r2 : List Int) (r3 : Int) (r4 : Int) (w : World) (hr0 : Kd.C (Kd.int .u8) w A0 l0.length l0) (hc0 : l0.length ≤ c0) (h : block_DecodeResult.f k l0 = some (r1, r2, r3, r4)) :
    Calls Try.prog 28 #[.slice A0 l0.length c0] w fun e w' => ∃ v1_ : Value, e = .returned (.tuple #[.agg #[.int .u8 r1, v1_], .int .i64 r3, .int .i64 r4]) ∧ Kd.R (Kd.int .u8) 5 w' w.heap.size (fun _ => True) v1_ r2 ∧ Below w.heap.size w w' := by
  have hu41 := Try.underlying41
  have hu60 := Try.underlying60
  have hu62 := Try.underlying62
  have HR0 := Aside0.mk hr0
  have HC0 := Aside0.mk hc0
  clear hr0 hc0
  have HB := Aside0.mk (Below.refl w.heap.size w)
  have H : ((block_left_number.f k l0 0 0 1).bind fun bt398 => ((block_left_text.f k l0 bt398.2.1 bt398.2.2).bind fun bt402 => ((block_Result.f k ((bt398.1) % 256) bt402.1).bind fun t407 => ((block_reader_end.f l0 bt402.2.1 bt402.2.2 t407).bind fun bt408 => (if bt408.2.1 = 0 then (some ((bt398.1) % 256, bt402.1, bt408.1, 0)) else (some (0, ([] : List Int), 0, bt408.2.1))))))) = some (r1, r2, r3, r4) := h
  clear h
  replace H := Option.bind_eq_some_iff.mp H
  obtain ⟨⟨t398, t399, t400⟩, A20, H⟩ := H
  replace H : ((block_left_text.f k l0 t399 t400).bind fun bt402 => ((block_Result.f k ((t398) % 256) bt402.1).bind fun t407 => ((block_reader_end.f l0 bt402.2.1 bt402.2.2 t407).bind fun bt408 => (if bt408.2.1 = 0 then (some ((t398) % 256, bt402.1, bt408.1, 0)) else (some (0, ([] : List Int), 0, bt408.2.1)))))) = some (r1, r2, r3, r4) := H
  have A2 := Aside0.mk A20
  clear A20
  replace H := Option.bind_eq_some_iff.mp H
  obtain ⟨⟨t402, t405, t406⟩, A30, H⟩ := H
  replace H : ((block_Result.f k ((t398) % 256) t402).bind fun t407 => ((block_reader_end.f l0 t405 t406 t407).bind fun bt408 => (if bt408.2.1 = 0 then (some ((t398) % 256, t402, bt408.1, 0)) else (some (0, ([] : List Int), 0, bt408.2.1))))) = some (r1, r2, r3, r4) := H
  have A3 := Aside0.mk A30
  clear A30
  replace H := Option.bind_eq_some_iff.mp H
  obtain ⟨t407, A40, H⟩ := H
  replace H : ((block_reader_end.f l0 t405 t406 t407).bind fun bt408 => (if bt408.2.1 = 0 then (some ((t398) % 256, t402, bt408.1, 0)) else (some (0, ([] : List Int), 0, bt408.2.1)))) = some (r1, r2, r3, r4) := H
  have A4 := Aside0.mk A40
  clear A40
  replace H := Option.bind_eq_some_iff.mp H
  obtain ⟨⟨t408, t409, t410, t411⟩, A50, H⟩ := H
  replace H : (if t409 = 0 then (some ((t398) % 256, t402, t408, 0)) else (some (0, ([] : List Int), 0, t409))) = some (r1, r2, r3, r4) := H
  have A5 := Aside0.mk A50
  clear A50
  by_cases c6 : t409 = 0
  · rw [if_pos c6] at H
    have c6b0 : (t409 == 0) = true := beq_iff_eq.mpr c6
    have c6b1 : (t409 != 0) = false := bne_eq_false_iff_eq.mpr c6
    clear c6
    simp only [Option.some.injEq, Prod.mk.injEq] at H
    obtain ⟨rfl, rfl, rfl, rfl⟩ := H
    go_enter Try.func28, Try.ntmps28
    go_wp2_with (first | ((with_reducible refine gate_dst (N := 2) rfl ?_); refine box_event ?hg (N := 2) ?hd (cs := #[.int .u8 0, .slice none 0 0]) (t := 41) ?hr ?_; (case hd => rfl); (case hg => rfl); (case hr => first | (go_simp; done) | (go_simp; rfl)); intro gb396 hg w7 hbox hb; have BK396 := Aside0.mk (hbox); have GW396 := Aside0.mk ((by rw [hg]; exact (below_size (upB0 HB.out)) : w.heap.size ≤ gb396)); have GE396 := Aside0.mk ((by rw [hg]; exact (below_size (upB0 HB.out)) : w.heap.size ≤ gb396)); replace HB := Aside0.mk (below_step (upB0 HB.out) hb); clear hb hbox hg) | ((with_reducible refine gate_dst (N := 12) rfl ?_); refine box_event ?hg (N := 12) ?hd (cs := #[.slice A0 l0.length c0, .int .i64 0, .int .i64 0]) (t := 62) ?hr ?_; (case hd => rfl); (case hg => rfl); (case hr => first | (go_simp; done) | (go_simp; rfl)); intro gb397 hg w8 hbox hb; have BK397 := Aside0.mk (hbox); have GW397 := Aside0.mk ((by rw [hg]; exact (below_size (upB1 HB.out GE396.out)) : w.heap.size ≤ gb397)); have GE397 := Aside0.mk ((by rw [hg]; exact (below_size (upB1 HB.out GE396.out)) : w.heap.size ≤ gb397)); replace HB := Aside0.mk (below_step (upB1 HB.out GE396.out) hb); have NB396_397 := Aside0.mk ((by rw [hg]; exact Nat.ne_of_lt (blk_lt (upK BK396.out)) : gb396 ≠ gb397)); have NB397_396 := Aside0.mk ((by rw [hg]; exact Nat.ne_of_gt (blk_lt (upK BK396.out)) : gb397 ≠ gb396)); replace BK396 := Aside0.mk (blk_below (upK BK396.out) hb); clear hb hbox hg; have HI397 := Aside0.mk (show IsS60 w _ gb397 l0 0 0 from ⟨_, _, BK397.out, GE397.out, ⟨HC0.out, HR0.out⟩⟩); clear BK397) | ((with_reducible refine gate_callee (f := 35) rfl ?_); refine goesL_ (some 16) rfl rfl Try.func35 (by kernel_rfl) rfl #[.pointer (some ⟨gb397, 0, none⟩), .int .i64 1] rfl argA ?_; (with_reducible refine (block_left_number.calls k gb397 l0 0 0 1 t398 t399 t400 w _ ?side1 ?side2 A2.out).mono ?_); (case side1 => exact block_DecodeResult.ups0 HI397.out NB397_396.out); (case side2 => exact upB2 HB.out (IsS60.ge HI397.out) GE396.out); rintro e w9 ⟨rfl, hi, hb, hk⟩; refine ⟨_, rfl, ?_⟩; replace BK396 := Aside0.mk (KeepBut.blk hk (upK BK396.out) NB396_397.out (by simp)); replace HB := Aside0.mk (hb); replace HI397 := Aside0.mk (hi); (try clear hb); (try clear hb2); (try clear hk); (try clear hi)) | ((with_reducible refine gate_dst (N := 6) rfl ?_); refine box_event ?hg (N := 6) ?hd (cs := #[.int .u8 0, .slice none 0 0]) (t := 41) ?hr ?_; (case hd => rfl); (case hg => rfl); (case hr => first | (go_simp; done) | (go_simp; rfl)); intro gb401 hg w10 hbox hb; have BK401 := Aside0.mk (hbox); have GW401 := Aside0.mk ((by rw [hg]; exact (below_size (upB2 HB.out (IsS60.ge HI397.out) GE396.out)) : w.heap.size ≤ gb401)); have GE401 := Aside0.mk ((by rw [hg]; exact (below_size (upB2 HB.out (IsS60.ge HI397.out) GE396.out)) : w.heap.size ≤ gb401)); replace HB := Aside0.mk (below_step (upB2 HB.out (IsS60.ge HI397.out) GE396.out) hb); have NB396_401 := Aside0.mk ((by rw [hg]; exact Nat.ne_of_lt (blk_lt (upK BK396.out)) : gb396 ≠ gb401)); have NB401_396 := Aside0.mk ((by rw [hg]; exact Nat.ne_of_gt (blk_lt (upK BK396.out)) : gb401 ≠ gb396)); replace BK396 := Aside0.mk (blk_below (upK BK396.out) hb); have NB397_401 := Aside0.mk ((by rw [hg]; exact Nat.ne_of_lt (IsS60.lt (show IsS60 w _ gb397 l0 t399 t400 from block_DecodeResult.ups0 HI397.out NB397_396.out)) : gb397 ≠ gb401)); have NB401_397 := Aside0.mk ((by rw [hg]; exact Nat.ne_of_gt (IsS60.lt (show IsS60 w _ gb397 l0 t399 t400 from block_DecodeResult.ups0 HI397.out NB397_396.out)) : gb401 ≠ gb397)); replace HI397 := Aside0.mk (IsS60.below (block_DecodeResult.ups0 HI397.out NB397_396.out) hb); clear hb hbox hg; have hnb11 := NB401_396.out; have hnc11 := NB396_401.out; have hnb12 := NB401_397.out; have hnc12 := NB397_401.out; obtain ⟨hcz13_0, hcz13_1, hfz13_0, hfz13_1⟩ := cells2 BK401.out) | ((with_reducible refine gate_callee (f := 36) rfl ?_); refine goesL_ (some 22) rfl rfl Try.func36 (by kernel_rfl) rfl #[.pointer (some ⟨gb397, 0, none⟩)] rfl argA ?_; (with_reducible refine (block_left_text.calls k gb397 l0 t399 t400 t402 t405 t406 w _ ?side1 ?side2 A3.out).mono ?_); (case side1 => exact block_DecodeResult.ups1 HI397.out NB397_396.out NB397_401.out); (case side2 => exact upB3 HB.out (IsS60.ge HI397.out) GE396.out GE401.out); rintro e w14 ⟨v403, rfl, ho0, hi, hb, hk⟩; refine ⟨_, rfl, ?_⟩; replace BK396 := Aside0.mk (KeepBut.blk hk (g' := gb396) (o := .cells #[.int .u8 0, .slice none 0 0] 41 (0, 0)) (by refine upK ?_; refine blk_far ?_ NB396_401.out _; refine upK ?_; refine blk_far ?_ NB396_401.out _; refine upK ?_; exact BK396.out) NB396_397.out (by simp)); replace BK401 := Aside0.mk (KeepBut.blk hk (g' := gb401) (o := .cells #[.int .u8 ((t398) % 256), .slice none 0 0] 41 (0, 0)) (by refine upK ?_; refine blk_put (cs := #[.int .u8 ((t398) % 256), .slice none 0 0]) ?_ 1 _ rfl; refine upK ?_; refine blk_put (cs := #[.int .u8 0, .slice none 0 0]) ?_ 0 _ rfl; refine upK ?_; exact BK401.out) NB401_397.out (by simp)); have HO404 := Aside0.mk (Kd.R_lower ho0 (below_size (upB3 HB.out (IsS60.ge HI397.out) GE396.out GE401.out))); replace HB := Aside0.mk (hb); replace HI397 := Aside0.mk (hi); (try clear hb); (try clear hb2); (try clear hk); (try clear hi); (try clear ho0); obtain ⟨Ao15, co15, eo15⟩ := Kd.R_slice HO404.out; subst eo15; obtain ⟨hcz16_0, hcz16_1, hfz16_0, hfz16_1⟩ := cells2 BK401.out) | ((with_reducible refine gate_callee (f := 21) rfl ?_); refine goesL_ (some 27) rfl rfl Try.func21 (by kernel_rfl) rfl #[.agg #[.int .u8 ((t398) % 256), .slice Ao15 t402.length co15]] rfl argA ?_; (with_reducible refine (block_Result.calls k ((t398) % 256) _ _ t402 t407 _ ?side1 ?side2 A4.out).mono ?_); (case side1 => refine (Kd.R_reads' (e := 5) (base := w.heap.size) (ok := fun k_ => True) (n := t402.length) (c := co15) ?_).2.2; exact (by refine upR ?_; exact (fR1 (Kd.R_types HO404.out BK401.out (by decide))))); (case side2 => exact (Kd.R_reads' HO404.out).2.1); rintro e w17 ⟨rfl, hb⟩; refine ⟨_, rfl, ?_⟩; replace HO404 := Aside0.mk (Kd.R_below (by refine upR ?_; exact (fR1 (Kd.R_types HO404.out BK401.out (by decide)))) hb); replace BK396 := Aside0.mk (blk_below (g := gb396) (o := .cells #[.int .u8 0, .slice none 0 0] 41 (0, 0)) (by refine upK ?_; refine blk_far ?_ NB396_401.out _; refine upK ?_; exact BK396.out) hb); replace BK401 := Aside0.mk (blk_below (g := gb401) (o := .cells #[.int .u8 ((t398) % 256), .slice Ao15 t402.length co15] 41 (0, 0)) (by refine upK ?_; refine blk_put (cs := #[.int .u8 ((t398) % 256), .slice none 0 0]) ?_ 1 _ rfl; refine upK ?_; exact BK401.out) hb); replace HB := Aside0.mk (below_step (upB3 HB.out (IsS60.ge HI397.out) GE396.out GE401.out) hb); replace HI397 := Aside0.mk (IsS60.below (show IsS60 w (w14.setCell ⟨gb401, 1, none⟩ (.slice Ao15 t402.length co15)) gb397 l0 t405 t406 from block_DecodeResult.ups1 HI397.out NB397_396.out NB397_401.out) hb); (try clear hb); (try clear hb2); (try clear hk); (try clear hi)) | ((with_reducible refine gate_callee (f := 37) rfl ?_); refine goesL_ (some 28) rfl rfl Try.func37 (by kernel_rfl) rfl #[.pointer (some ⟨gb397, 0, none⟩), .int .i64 t407] rfl argA ?_; (with_reducible refine (block_reader_end.calls gb397 l0 t405 t406 t407 t408 t409 t410 t411 w _ ?side1 ?side2 A5.out).mono ?_); (case side1 => exact block_DecodeResult.ups1 HI397.out NB397_396.out NB397_401.out); (case side2 => exact upB3 HB.out (IsS60.ge HI397.out) GE396.out GE401.out); rintro e w18 ⟨rfl, hi, hb, hk⟩; refine ⟨_, rfl, ?_⟩; replace BK396 := Aside0.mk (KeepBut.blk hk (upK BK396.out) NB396_397.out (by simp)); replace BK401 := Aside0.mk (KeepBut.blk hk (upK BK401.out) NB401_397.out (by simp)); replace HO404 := Aside0.mk (Kd.R_mono (Kd.R_keep (IsS62.apart (show IsS62 w _ gb397 l0 t405 t406 from block_DecodeResult.ups1 HI397.out NB397_396.out NB397_401.out) (upR HO404.out) (by decide)) hk (fun _ h => h.2)) (fun _ h => h.1)); replace HB := Aside0.mk (hb); replace HI397 := Aside0.mk (hi); (try clear hb); (try clear hb2); (try clear hk); (try clear hi); obtain ⟨hcz19_0, hcz19_1, hfz19_0, hfz19_1⟩ := cells2 BK401.out; have hnb20 := NB396_397.out; have hnc20 := NB397_396.out; obtain ⟨hcz21_0, hcz21_1, hfz21_0, hfz21_1⟩ := cells2 BK396.out))
    refine bodyPost_ret (results_ctt rfl _ _ gb396 41 #[.int .u8 ((t398) % 256), .slice Ao15 t402.length co15] (0, 0) _ rfl (by refine upK ?_; refine blk_put (cs := #[.int .u8 ((t398) % 256), .slice none 0 0]) ?_ 1 _ rfl; refine upK ?_; refine blk_put (cs := #[.int .u8 0, .slice none 0 0]) ?_ 0 _ rfl; refine upK ?_; exact BK396.out) Try.underlying41 rfl (by kernel_rfl)) rfl ?_
    exact ⟨_, by first | rfl | (simp [errW_none, errW_some] <;> rfl) | (simp [*, errW_none, errW_some] <;> rfl), by refine upR ?_; exact Kd.R_mono (garR2 (g := gb396) (Kd.R_types HO404.out BK396.out (by decide)) 0 (.int .u8 ((t398) % 256)) 1 (.slice Ao15 t402.length co15)) (fun _ hk => trivial), upB3 HB.out (IsS60.ge HI397.out) GE396.out GE401.out⟩
  · rw [if_neg c6] at H
    have c6b0 : (t409 == 0) = false := beq_eq_false_iff_ne.mpr c6
    have c6b1 : (t409 != 0) = true := bne_iff_ne.mpr c6
    simp only [Option.some.injEq, Prod.mk.injEq] at H
    obtain ⟨rfl, rfl, rfl, rfl⟩ := H
    go_enter Try.func28, Try.ntmps28
    go_wp2_with (first | ((with_reducible refine gate_dst (N := 2) rfl ?_); refine box_event ?hg (N := 2) ?hd (cs := #[.int .u8 0, .slice none 0 0]) (t := 41) ?hr ?_; (case hd => rfl); (case hg => rfl); (case hr => first | (go_simp; done) | (go_simp; rfl)); intro gb396 hg w22 hbox hb; have BK396 := Aside0.mk (hbox); have GW396 := Aside0.mk ((by rw [hg]; exact (below_size (upB0 HB.out)) : w.heap.size ≤ gb396)); have GE396 := Aside0.mk ((by rw [hg]; exact (below_size (upB0 HB.out)) : w.heap.size ≤ gb396)); replace HB := Aside0.mk (below_step (upB0 HB.out) hb); clear hb hbox hg) | ((with_reducible refine gate_dst (N := 12) rfl ?_); refine box_event ?hg (N := 12) ?hd (cs := #[.slice A0 l0.length c0, .int .i64 0, .int .i64 0]) (t := 62) ?hr ?_; (case hd => rfl); (case hg => rfl); (case hr => first | (go_simp; done) | (go_simp; rfl)); intro gb397 hg w23 hbox hb; have BK397 := Aside0.mk (hbox); have GW397 := Aside0.mk ((by rw [hg]; exact (below_size (upB1 HB.out GE396.out)) : w.heap.size ≤ gb397)); have GE397 := Aside0.mk ((by rw [hg]; exact (below_size (upB1 HB.out GE396.out)) : w.heap.size ≤ gb397)); replace HB := Aside0.mk (below_step (upB1 HB.out GE396.out) hb); have NB396_397 := Aside0.mk ((by rw [hg]; exact Nat.ne_of_lt (blk_lt (upK BK396.out)) : gb396 ≠ gb397)); have NB397_396 := Aside0.mk ((by rw [hg]; exact Nat.ne_of_gt (blk_lt (upK BK396.out)) : gb397 ≠ gb396)); replace BK396 := Aside0.mk (blk_below (upK BK396.out) hb); clear hb hbox hg; have HI397 := Aside0.mk (show IsS60 w _ gb397 l0 0 0 from ⟨_, _, BK397.out, GE397.out, ⟨HC0.out, HR0.out⟩⟩); clear BK397) | ((with_reducible refine gate_callee (f := 35) rfl ?_); refine goesL_ (some 16) rfl rfl Try.func35 (by kernel_rfl) rfl #[.pointer (some ⟨gb397, 0, none⟩), .int .i64 1] rfl argA ?_; (with_reducible refine (block_left_number.calls k gb397 l0 0 0 1 t398 t399 t400 w _ ?side1 ?side2 A2.out).mono ?_); (case side1 => exact block_DecodeResult.ups0 HI397.out NB397_396.out); (case side2 => exact upB2 HB.out (IsS60.ge HI397.out) GE396.out); rintro e w24 ⟨rfl, hi, hb, hk⟩; refine ⟨_, rfl, ?_⟩; replace BK396 := Aside0.mk (KeepBut.blk hk (upK BK396.out) NB396_397.out (by simp)); replace HB := Aside0.mk (hb); replace HI397 := Aside0.mk (hi); (try clear hb); (try clear hb2); (try clear hk); (try clear hi)) | ((with_reducible refine gate_dst (N := 6) rfl ?_); refine box_event ?hg (N := 6) ?hd (cs := #[.int .u8 0, .slice none 0 0]) (t := 41) ?hr ?_; (case hd => rfl); (case hg => rfl); (case hr => first | (go_simp; done) | (go_simp; rfl)); intro gb401 hg w25 hbox hb; have BK401 := Aside0.mk (hbox); have GW401 := Aside0.mk ((by rw [hg]; exact (below_size (upB2 HB.out (IsS60.ge HI397.out) GE396.out)) : w.heap.size ≤ gb401)); have GE401 := Aside0.mk ((by rw [hg]; exact (below_size (upB2 HB.out (IsS60.ge HI397.out) GE396.out)) : w.heap.size ≤ gb401)); replace HB := Aside0.mk (below_step (upB2 HB.out (IsS60.ge HI397.out) GE396.out) hb); have NB396_401 := Aside0.mk ((by rw [hg]; exact Nat.ne_of_lt (blk_lt (upK BK396.out)) : gb396 ≠ gb401)); have NB401_396 := Aside0.mk ((by rw [hg]; exact Nat.ne_of_gt (blk_lt (upK BK396.out)) : gb401 ≠ gb396)); replace BK396 := Aside0.mk (blk_below (upK BK396.out) hb); have NB397_401 := Aside0.mk ((by rw [hg]; exact Nat.ne_of_lt (IsS60.lt (show IsS60 w _ gb397 l0 t399 t400 from block_DecodeResult.ups0 HI397.out NB397_396.out)) : gb397 ≠ gb401)); have NB401_397 := Aside0.mk ((by rw [hg]; exact Nat.ne_of_gt (IsS60.lt (show IsS60 w _ gb397 l0 t399 t400 from block_DecodeResult.ups0 HI397.out NB397_396.out)) : gb401 ≠ gb397)); replace HI397 := Aside0.mk (IsS60.below (block_DecodeResult.ups0 HI397.out NB397_396.out) hb); clear hb hbox hg; have hnb26 := NB401_396.out; have hnc26 := NB396_401.out; have hnb27 := NB401_397.out; have hnc27 := NB397_401.out; obtain ⟨hcz28_0, hcz28_1, hfz28_0, hfz28_1⟩ := cells2 BK401.out) | ((with_reducible refine gate_callee (f := 36) rfl ?_); refine goesL_ (some 22) rfl rfl Try.func36 (by kernel_rfl) rfl #[.pointer (some ⟨gb397, 0, none⟩)] rfl argA ?_; (with_reducible refine (block_left_text.calls k gb397 l0 t399 t400 t402 t405 t406 w _ ?side1 ?side2 A3.out).mono ?_); (case side1 => exact block_DecodeResult.ups1 HI397.out NB397_396.out NB397_401.out); (case side2 => exact upB3 HB.out (IsS60.ge HI397.out) GE396.out GE401.out); rintro e w29 ⟨v403, rfl, ho0, hi, hb, hk⟩; refine ⟨_, rfl, ?_⟩; replace BK396 := Aside0.mk (KeepBut.blk hk (g' := gb396) (o := .cells #[.int .u8 0, .slice none 0 0] 41 (0, 0)) (by refine upK ?_; refine blk_far ?_ NB396_401.out _; refine upK ?_; refine blk_far ?_ NB396_401.out _; refine upK ?_; exact BK396.out) NB396_397.out (by simp)); replace BK401 := Aside0.mk (KeepBut.blk hk (g' := gb401) (o := .cells #[.int .u8 ((t398) % 256), .slice none 0 0] 41 (0, 0)) (by refine upK ?_; refine blk_put (cs := #[.int .u8 ((t398) % 256), .slice none 0 0]) ?_ 1 _ rfl; refine upK ?_; refine blk_put (cs := #[.int .u8 0, .slice none 0 0]) ?_ 0 _ rfl; refine upK ?_; exact BK401.out) NB401_397.out (by simp)); have HO404 := Aside0.mk (Kd.R_lower ho0 (below_size (upB3 HB.out (IsS60.ge HI397.out) GE396.out GE401.out))); replace HB := Aside0.mk (hb); replace HI397 := Aside0.mk (hi); (try clear hb); (try clear hb2); (try clear hk); (try clear hi); (try clear ho0); obtain ⟨Ao30, co30, eo30⟩ := Kd.R_slice HO404.out; subst eo30; obtain ⟨hcz31_0, hcz31_1, hfz31_0, hfz31_1⟩ := cells2 BK401.out) | ((with_reducible refine gate_callee (f := 21) rfl ?_); refine goesL_ (some 27) rfl rfl Try.func21 (by kernel_rfl) rfl #[.agg #[.int .u8 ((t398) % 256), .slice Ao30 t402.length co30]] rfl argA ?_; (with_reducible refine (block_Result.calls k ((t398) % 256) _ _ t402 t407 _ ?side1 ?side2 A4.out).mono ?_); (case side1 => refine (Kd.R_reads' (e := 5) (base := w.heap.size) (ok := fun k_ => True) (n := t402.length) (c := co30) ?_).2.2; exact (by refine upR ?_; exact (fR1 (Kd.R_types HO404.out BK401.out (by decide))))); (case side2 => exact (Kd.R_reads' HO404.out).2.1); rintro e w32 ⟨rfl, hb⟩; refine ⟨_, rfl, ?_⟩; replace HO404 := Aside0.mk (Kd.R_below (by refine upR ?_; exact (fR1 (Kd.R_types HO404.out BK401.out (by decide)))) hb); replace BK396 := Aside0.mk (blk_below (g := gb396) (o := .cells #[.int .u8 0, .slice none 0 0] 41 (0, 0)) (by refine upK ?_; refine blk_far ?_ NB396_401.out _; refine upK ?_; exact BK396.out) hb); replace BK401 := Aside0.mk (blk_below (g := gb401) (o := .cells #[.int .u8 ((t398) % 256), .slice Ao30 t402.length co30] 41 (0, 0)) (by refine upK ?_; refine blk_put (cs := #[.int .u8 ((t398) % 256), .slice none 0 0]) ?_ 1 _ rfl; refine upK ?_; exact BK401.out) hb); replace HB := Aside0.mk (below_step (upB3 HB.out (IsS60.ge HI397.out) GE396.out GE401.out) hb); replace HI397 := Aside0.mk (IsS60.below (show IsS60 w (w29.setCell ⟨gb401, 1, none⟩ (.slice Ao30 t402.length co30)) gb397 l0 t405 t406 from block_DecodeResult.ups1 HI397.out NB397_396.out NB397_401.out) hb); (try clear hb); (try clear hb2); (try clear hk); (try clear hi)) | ((with_reducible refine gate_callee (f := 37) rfl ?_); refine goesL_ (some 28) rfl rfl Try.func37 (by kernel_rfl) rfl #[.pointer (some ⟨gb397, 0, none⟩), .int .i64 t407] rfl argA ?_; (with_reducible refine (block_reader_end.calls gb397 l0 t405 t406 t407 t408 t409 t410 t411 w _ ?side1 ?side2 A5.out).mono ?_); (case side1 => exact block_DecodeResult.ups1 HI397.out NB397_396.out NB397_401.out); (case side2 => exact upB3 HB.out (IsS60.ge HI397.out) GE396.out GE401.out); rintro e w33 ⟨rfl, hi, hb, hk⟩; refine ⟨_, rfl, ?_⟩; replace BK396 := Aside0.mk (KeepBut.blk hk (upK BK396.out) NB396_397.out (by simp)); replace BK401 := Aside0.mk (KeepBut.blk hk (upK BK401.out) NB401_397.out (by simp)); replace HO404 := Aside0.mk (Kd.R_mono (Kd.R_keep (IsS62.apart (show IsS62 w _ gb397 l0 t405 t406 from block_DecodeResult.ups1 HI397.out NB397_396.out NB397_401.out) (upR HO404.out) (by decide)) hk (fun _ h => h.2)) (fun _ h => h.1)); replace HB := Aside0.mk (hb); replace HI397 := Aside0.mk (hi); (try clear hb); (try clear hb2); (try clear hk); (try clear hi); have hnb34 := NB396_397.out; have hnc34 := NB397_396.out; obtain ⟨hcz35_0, hcz35_1, hfz35_0, hfz35_1⟩ := cells2 BK396.out))
    refine bodyPost_ret (results_ctt rfl _ _ gb396 41 #[.int .u8 0, .slice none 0 0] (0, 0) _ rfl (by refine upK ?_; refine blk_put (cs := #[.int .u8 0, .slice none 0 0]) ?_ 1 _ rfl; refine upK ?_; refine blk_put (cs := #[.int .u8 0, .slice none 0 0]) ?_ 0 _ rfl; refine upK ?_; exact BK396.out) Try.underlying41 rfl (by kernel_rfl)) rfl ?_
    exact ⟨_, by first | rfl | (simp [errW_none, errW_some] <;> rfl) | (simp [*, errW_none, errW_some] <;> rfl), by first | exact Kd.R_nil _ _ _ _ _ | exact Kd.N_nil _ _ _ _ _ | exact Kd.V_nil _ _ _ _ _ | exact Kd.Q_nil _ _ _ _ _ | exact Kd.S_nil _ _ _ _ _, upB3 HB.out (IsS60.ge HI397.out) GE396.out GE401.out⟩

end Go.Proofs.Ytogjpilkgghidaa.F
