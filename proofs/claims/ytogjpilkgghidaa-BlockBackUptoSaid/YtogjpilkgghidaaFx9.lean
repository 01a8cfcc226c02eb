-- Written by ext (this session's own program).
import Derived.Test.YtogjpilkgghidaaFx0
import Derived.Test.YtogjpilkgghidaaFx2
import Derived.Test.YtogjpilkgghidaaFx8
namespace Go.Proofs.Ytogjpilkgghidaa.F
open Go.RowKit Go.Proofs.YtogjpilkgghidaaW.PrintWords Go.Proofs.YtogjpilkgghidaaW.PrintLast Go.Proofs.YtogjpilkgghidaaW.PrintMore
attribute [local go_sem] max2_int min2_int max_two min_two max_three min_three max_four min_four   -- for this text's walks alone
set_option linter.unusedVariables false
set_option linter.unusedSimpArgs false

/-! ### block_EncodeOp: function 12 -/
def block_EncodeOp.f (k : Nat) (a0_0 : Int) (a0_1 : Int) (a0_2 : Int) (l0_3 : List Int) (l0_4 : List Int) : Option (List Int × Int) := (block_Form.f a0_0 a0_1 a0_2 l0_3 l0_4).bind fun t145 => (if t145 = 0 then ((octets_PutAll.f k (([a0_0] : List Int)) 4 (([IntKind.u64.wrap (a0_1), IntKind.u64.wrap (a0_2)] : List Int))).bind fun bt152 => ((octets_PutText.f k bt152.1 l0_3).bind fun bt156 => ((octets_PutText.f k bt156.1 l0_4).bind fun bt160 => (some (bt160.1, 0))))) else (some (([] : List Int), t145)))
theorem block_EncodeOp.mono : ∀ a0 a1 a2 a3 a4 k, LeO (block_EncodeOp.f k a0 a1 a2 a3 a4) (block_EncodeOp.f (k + 1) a0 a1 a2 a3 a4) := by
  intro a0 a1 a2 a3 a4 k
  unfold block_EncodeOp.f
  repeat' first
      | (with_reducible exact octets_PutAll.mono _ _ _ _)
      | (with_reducible exact octets_PutText.mono _ _ _)
      | (with_reducible exact LeO.refl _)
      | (with_reducible exact LeO.none _)
      | (with_reducible refine LeO.ite ?_ ?_)
      | (with_reducible refine LeO.bind ?_ (fun _ => ?_))
      | exact octets_PutAll.mono _ _ _ _
      | exact octets_PutText.mono _ _ _
      | exact LeO.none _
      | refine LeO.ite ?_ ?_
      | refine LeO.bind ?_ (fun _ => ?_)
set_option maxHeartbeats 8000000 in
set_option maxRecDepth 100000 in
theorem block_EncodeOp.calls (k : Nat) (a0_0 : Int) (a0_1 : Int) (a0_2 : Int) (A0_3 : Option Addr) (c0_3 : Nat) (l0_3 : List Int) (A0_4 : Option Addr) (c0_4 : Nat) (l0_4 : List Int) (r1 : List Int) (r2 : Int) (w : World) (hr0_3 : Kd.C (Kd.int .u8) w A0_3 l0_3.length l0_3) (hc0_3 : l0_3.length ≤ c0_3) (hr0_4 : Kd.C (Kd.int .u8) w A0_4 l0_4.length l0_4) (hc0_4 : l0_4.length ≤ c0_4) (h : block_EncodeOp.f k a0_0 a0_1 a0_2 l0_3 l0_4 = some (r1, r2)) :
    Calls Try.prog 12 #[.agg #[.int .u8 a0_0, .int .i64 a0_1, .int .i64 a0_2, .slice A0_3 l0_3.length c0_3, .slice A0_4 l0_4.length c0_4]] w fun e w' => ∃ v0_ : Value, e = .returned (.tuple #[v0_, .int .i64 r2]) ∧ Kd.R (Kd.int .u8) 5 w' w.heap.size (fun _ => True) v0_ r1 ∧ Below w.heap.size w w' := by
  have hu27 := Try.underlying27
  have HR0_3 := Aside0.mk hr0_3
  have HC0_3 := Aside0.mk hc0_3
  clear hr0_3 hc0_3
  have HR0_4 := Aside0.mk hr0_4
  have HC0_4 := Aside0.mk hc0_4
  clear hr0_4 hc0_4
  have HB := Aside0.mk (Below.refl w.heap.size w)
  have H : ((block_Form.f a0_0 a0_1 a0_2 l0_3 l0_4).bind fun t145 => (if t145 = 0 then ((octets_PutAll.f k (([a0_0] : List Int)) 4 (([IntKind.u64.wrap (a0_1), IntKind.u64.wrap (a0_2)] : List Int))).bind fun bt152 => ((octets_PutText.f k bt152.1 l0_3).bind fun bt156 => ((octets_PutText.f k bt156.1 l0_4).bind fun bt160 => (some (bt160.1, 0))))) else (some (([] : List Int), t145)))) = some (r1, r2) := h
  clear h
  replace H := Option.bind_eq_some_iff.mp H
  obtain ⟨t145, A20, H⟩ := H
  replace H : (if t145 = 0 then ((octets_PutAll.f k (([a0_0] : List Int)) 4 (([IntKind.u64.wrap (a0_1), IntKind.u64.wrap (a0_2)] : List Int))).bind fun bt152 => ((octets_PutText.f k bt152.1 l0_3).bind fun bt156 => ((octets_PutText.f k bt156.1 l0_4).bind fun bt160 => (some (bt160.1, 0))))) else (some (([] : List Int), t145))) = some (r1, r2) := H
  have A2 := Aside0.mk A20
  clear A20
  by_cases c3 : t145 = 0
  · rw [if_pos c3] at H
    have c3b0 : (t145 == 0) = true := beq_iff_eq.mpr c3
    have c3b1 : (t145 != 0) = false := bne_eq_false_iff_eq.mpr c3
    clear c3
    obtain ⟨y146, hy146⟩ : ∃ y_ : List Int, y_ = (([a0_0] : List Int)) := ⟨_, rfl⟩
    replace H : ((octets_PutAll.f k y146 4 (([IntKind.u64.wrap (a0_1), IntKind.u64.wrap (a0_2)] : List Int))).bind fun bt152 => ((octets_PutText.f k bt152.1 l0_3).bind fun bt156 => ((octets_PutText.f k bt156.1 l0_4).bind fun bt160 => (some (bt160.1, 0))))) = some (r1, r2) := by first | (rw [hy146]; with_reducible exact H) | (have H2_ := (Option.bind_some _ _).symm.trans H; rw [hy146]; with_reducible exact H2_) | (have H2_ := (Option.bind_some _ _).symm.trans H; with_reducible exact H2_) | with_reducible exact H | (rw [hy146]; exact H) | exact H
    have Ny146 := Aside0.mk hy146
    clear hy146
    obtain ⟨y149, hy149⟩ : ∃ y_ : List Int, y_ = (([IntKind.u64.wrap (a0_1), IntKind.u64.wrap (a0_2)] : List Int)) := ⟨_, rfl⟩
    replace H : ((octets_PutAll.f k y146 4 y149).bind fun bt152 => ((octets_PutText.f k bt152.1 l0_3).bind fun bt156 => ((octets_PutText.f k bt156.1 l0_4).bind fun bt160 => (some (bt160.1, 0))))) = some (r1, r2) := by first | (rw [hy149]; with_reducible exact H) | (have H2_ := (Option.bind_some _ _).symm.trans H; rw [hy149]; with_reducible exact H2_) | (have H2_ := (Option.bind_some _ _).symm.trans H; with_reducible exact H2_) | with_reducible exact H | (rw [hy149]; exact H) | exact H
    have Ny149 := Aside0.mk hy149
    clear hy149
    replace H := Option.bind_eq_some_iff.mp H
    obtain ⟨⟨t152, t153⟩, A40, H⟩ := H
    replace H : ((octets_PutText.f k t152 l0_3).bind fun bt156 => ((octets_PutText.f k bt156.1 l0_4).bind fun bt160 => (some (bt160.1, 0)))) = some (r1, r2) := H
    have A4 := Aside0.mk A40
    clear A40
    replace H := Option.bind_eq_some_iff.mp H
    obtain ⟨⟨t156, t157⟩, A50, H⟩ := H
    replace H : ((octets_PutText.f k t156 l0_4).bind fun bt160 => (some (bt160.1, 0))) = some (r1, r2) := H
    have A5 := Aside0.mk A50
    clear A50
    replace H := Option.bind_eq_some_iff.mp H
    obtain ⟨⟨t160, t161⟩, A60, H⟩ := H
    replace H : (some (t160, 0)) = some (r1, r2) := H
    have A6 := Aside0.mk A60
    clear A60
    simp only [Option.some.injEq, Prod.mk.injEq] at H
    obtain ⟨rfl, rfl⟩ := H
    go_enter Try.func12, Try.ntmps12
    go_wp2_with (first | ((with_reducible refine gate_dst (N := 1) rfl ?_); refine box_event ?hg (N := 1) ?hd (cs := #[.int .u8 a0_0, .int .i64 a0_1, .int .i64 a0_2, .slice A0_3 l0_3.length c0_3, .slice A0_4 l0_4.length c0_4]) (t := 27) ?hr ?_; (case hd => rfl); (case hg => rfl); (case hr => first | (go_simp; done) | (go_simp; rfl)); intro gb144 hg w7 hbox hb; have BK144 := Aside0.mk (hbox); have GW144 := Aside0.mk ((by rw [hg]; exact (below_size (upB0 HB.out)) : w.heap.size ≤ gb144)); have GE144 := Aside0.mk ((by rw [hg]; exact (below_size (upB0 HB.out)) : w.heap.size ≤ gb144)); replace HB := Aside0.mk (below_step (upB0 HB.out) hb); clear hb hbox hg; obtain ⟨hcz8_0, hcz8_1, hcz8_2, hcz8_3, hcz8_4, hfz8_0, hfz8_1, hfz8_2, hfz8_3, hfz8_4⟩ := cells5 BK144.out) | ((with_reducible refine gate_callee (f := 19) rfl ?_); refine goesL_ (some 8) rfl rfl Try.func19 (by kernel_rfl) rfl #[.agg #[.int .u8 a0_0, .int .i64 a0_1, .int .i64 a0_2, .slice A0_3 l0_3.length c0_3, .slice A0_4 l0_4.length c0_4]] rfl argA ?_; (with_reducible refine (block_Form.calls a0_0 a0_1 a0_2 _ _ l0_3 _ _ l0_4 t145 _ ?side1 ?side2 ?side3 ?side4 A2.out).mono ?_); (case side1 => exact upC ((Kd.C_below HR0_3.out HB.out))); (case side2 => exact HC0_3.out); (case side3 => exact upC ((Kd.C_below HR0_4.out HB.out))); (case side4 => exact HC0_4.out); rintro e w9 ⟨rfl, hb⟩; refine ⟨_, rfl, ?_⟩; replace BK144 := Aside0.mk (blk_below (upK BK144.out) hb); replace HB := Aside0.mk (below_step (upB1 HB.out GE144.out) hb); (try clear hb); (try clear hb2); (try clear hk); (try clear hi); obtain ⟨hcz10_0, hcz10_1, hcz10_2, hcz10_3, hcz10_4, hfz10_0, hfz10_1, hfz10_2, hfz10_3, hfz10_4⟩ := cells5 BK144.out) | ((with_reducible refine gate_dst (N := 15) rfl ?_); refine Kd.R_lit (Kd.int .u8) _ 5 ?hg (N := 15) ?hd (xs := ([a0_0] : List Int)) (inner := [.int .u8 a0_0]) (ok := fun _ => True) (okp := fun _ => True) ?hr ?hp (fun _ hk => hk) trivial (Below.refl _ _) (Nat.le_refl _) (by simp) ?_; (case hd => rfl); (case hg => rfl); (case hr => first | (go_simp; done) | (go_simp; rfl)); (case hp => exact (Reps.one (show Kd.M (Kd.int .u8) _ _ _ a0_0 [.int .u8 a0_0] from rfl) (Reps.none _ _))); intro v147 w11 ho12 hb hg_ hnew_; clear hg_ hnew_; (first | rw [← Ny146.out] at ho12 | (simp only [Int.reduceToNat] at ho12; rw [← Ny146.out] at ho12)); have HO148 := Aside0.mk (Kd.R_lower ho12 (below_size (upB1 HB.out GE144.out))); replace BK144 := Aside0.mk (blk_below (upK BK144.out) hb); replace HB := Aside0.mk (below_step (upB1 HB.out GE144.out) hb); clear hb ho12; obtain ⟨hcz13_0, hcz13_1, hcz13_2, hcz13_3, hcz13_4, hfz13_0, hfz13_1, hfz13_2, hfz13_3, hfz13_4⟩ := cells5 BK144.out) | ((with_reducible refine gate_dst (N := 22) rfl ?_); refine Kd.R_lit (Kd.int .u64) _ 55 ?hg (N := 22) ?hd (xs := ([IntKind.u64.wrap (a0_1), IntKind.u64.wrap (a0_2)] : List Int)) (inner := [.int .u64 (IntKind.u64.wrap (a0_1)), .int .u64 (IntKind.u64.wrap (a0_2))]) (ok := fun _ => True) (okp := fun _ => True) ?hr ?hp (fun _ hk => hk) trivial (Below.refl _ _) (Nat.le_refl _) (by simp) ?_; (case hd => rfl); (case hg => rfl); (case hr => first | (go_simp; done) | (go_simp; rfl)); (case hp => exact (Reps.one (show Kd.M (Kd.int .u64) _ _ _ (IntKind.u64.wrap (a0_1)) [.int .u64 (IntKind.u64.wrap (a0_1))] from rfl) (Reps.one (show Kd.M (Kd.int .u64) _ _ _ (IntKind.u64.wrap (a0_2)) [.int .u64 (IntKind.u64.wrap (a0_2))] from rfl) (Reps.none _ _)))); intro v150 w14 ho15 hb hg_ hnew_; clear hg_ hnew_; (first | rw [← Ny149.out] at ho15 | (simp only [Int.reduceToNat] at ho15; rw [← Ny149.out] at ho15)); replace HO148 := Aside0.mk (Kd.R_below (upR HO148.out) hb); have HO151 := Aside0.mk (Kd.R_lower ho15 (below_size (upB1 HB.out GE144.out))); replace BK144 := Aside0.mk (blk_below (upK BK144.out) hb); replace HB := Aside0.mk (below_step (upB1 HB.out GE144.out) hb); clear hb ho15; obtain ⟨Ao16, co16, eo16⟩ := Kd.R_slice HO148.out; subst eo16; obtain ⟨Ao17, co17, eo17⟩ := Kd.R_slice HO151.out; subst eo17) | ((with_reducible refine gate_callee (f := 31) rfl ?_); refine goesL_ (some 23) rfl rfl Try.func31 (by kernel_rfl) rfl #[.slice Ao16 y146.length co16, .int .i64 4, .slice Ao17 y149.length co17] rfl argA ?_; (with_reducible refine (octets_PutAll.calls k _ _ y146 4 _ _ y149 t152 t153 _ ?side1 ?side2 ?side3 ?side4 A4.out).mono ?_); (case side1 => exact upC ((Kd.R_reads' HO148.out).2.2)); (case side2 => exact (Kd.R_reads' HO148.out).2.1); (case side3 => exact upC ((Kd.R_reads' HO151.out).2.2)); (case side4 => exact (Kd.R_reads' HO151.out).2.1); rintro e w18 ⟨v154, rfl, ho0, hb⟩; refine ⟨_, rfl, ?_⟩; replace HO151 := Aside0.mk (Kd.R_below (upR HO151.out) hb); have HO155 := Aside0.mk (Kd.R_lower (Kd.R_new' ho0 (Kd.R_lt (upR HO148.out))) (below_size (upB1 HB.out GE144.out))); replace HO148 := Aside0.mk (Kd.R_elder' (upR HO148.out) (Kd.R_base ho0) hb); replace BK144 := Aside0.mk (blk_below (upK BK144.out) hb); replace HB := Aside0.mk (below_step (upB1 HB.out GE144.out) hb); (try clear hb); (try clear hb2); (try clear hk); (try clear hi); (try clear ho0); obtain ⟨hcz19_0, hcz19_1, hcz19_2, hcz19_3, hcz19_4, hfz19_0, hfz19_1, hfz19_2, hfz19_3, hfz19_4⟩ := cells5 BK144.out; obtain ⟨Ao20, co20, eo20⟩ := Kd.R_slice HO155.out; subst eo20) | ((with_reducible refine gate_callee (f := 32) rfl ?_); refine goesL_ (some 30) rfl rfl Try.func32 (by kernel_rfl) rfl #[.slice Ao20 t152.length co20, .slice A0_3 l0_3.length c0_3] rfl argA ?_; (with_reducible refine (octets_PutText.calls k _ _ t152 _ _ l0_3 t156 t157 _ ?side1 ?side2 ?side3 ?side4 A5.out).mono ?_); (case side1 => exact upC ((Kd.R_reads' HO155.out).2.2)); (case side2 => exact (Kd.R_reads' HO155.out).2.1); (case side3 => exact upC ((Kd.C_below HR0_3.out HB.out))); (case side4 => exact HC0_3.out); rintro e w21 ⟨v158, rfl, ho0, hb⟩; refine ⟨_, rfl, ?_⟩; replace HO151 := Aside0.mk (Kd.R_below (upR HO151.out) hb); have HO159 := Aside0.mk (Kd.R_lower (Kd.R_new' (Kd.R_new' ho0 (Kd.R_lt (upR HO148.out))) (Kd.R_lt (upR HO155.out))) (below_size (upB1 HB.out GE144.out))); replace HO148 := Aside0.mk (Kd.R_elder' (upR HO148.out) (Kd.R_base ho0) hb); replace HO155 := Aside0.mk (Kd.R_elder' (upR HO155.out) (Kd.R_base ho0) hb); replace BK144 := Aside0.mk (blk_below (upK BK144.out) hb); replace HB := Aside0.mk (below_step (upB1 HB.out GE144.out) hb); (try clear hb); (try clear hb2); (try clear hk); (try clear hi); (try clear ho0); obtain ⟨hcz22_0, hcz22_1, hcz22_2, hcz22_3, hcz22_4, hfz22_0, hfz22_1, hfz22_2, hfz22_3, hfz22_4⟩ := cells5 BK144.out; obtain ⟨Ao23, co23, eo23⟩ := Kd.R_slice HO159.out; subst eo23) | ((with_reducible refine gate_callee (f := 32) rfl ?_); refine goesL_ (some 37) rfl rfl Try.func32 (by kernel_rfl) rfl #[.slice Ao23 t156.length co23, .slice A0_4 l0_4.length c0_4] rfl argA ?_; (with_reducible refine (octets_PutText.calls k _ _ t156 _ _ l0_4 t160 t161 _ ?side1 ?side2 ?side3 ?side4 A6.out).mono ?_); (case side1 => exact upC ((Kd.R_reads' HO159.out).2.2)); (case side2 => exact (Kd.R_reads' HO159.out).2.1); (case side3 => exact upC ((Kd.C_below HR0_4.out HB.out))); (case side4 => exact HC0_4.out); rintro e w24 ⟨v162, rfl, ho0, hb⟩; refine ⟨_, rfl, ?_⟩; replace HO151 := Aside0.mk (Kd.R_below (upR HO151.out) hb); have HO163 := Aside0.mk (Kd.R_lower (Kd.R_new' (Kd.R_new' (Kd.R_new' ho0 (Kd.R_lt (upR HO148.out))) (Kd.R_lt (upR HO155.out))) (Kd.R_lt (upR HO159.out))) (below_size (upB1 HB.out GE144.out))); replace HO148 := Aside0.mk (Kd.R_elder' (upR HO148.out) (Kd.R_base ho0) hb); replace HO155 := Aside0.mk (Kd.R_elder' (upR HO155.out) (Kd.R_base ho0) hb); replace HO159 := Aside0.mk (Kd.R_elder' (upR HO159.out) (Kd.R_base ho0) hb); replace BK144 := Aside0.mk (blk_below (upK BK144.out) hb); replace HB := Aside0.mk (below_step (upB1 HB.out GE144.out) hb); (try clear hb); (try clear hb2); (try clear hk); (try clear hi); (try clear ho0)))
    go_ret2
    exact ⟨_, by first | rfl | (simp [errW_none, errW_some] <;> rfl) | (simp [*, errW_none, errW_some] <;> rfl), by refine upR ?_; exact Kd.R_mono HO163.out (fun _ hk => trivial), upB1 HB.out GE144.out⟩
  · rw [if_neg c3] at H
    have c3b0 : (t145 == 0) = false := beq_eq_false_iff_ne.mpr c3
    have c3b1 : (t145 != 0) = true := bne_iff_ne.mpr c3
    simp only [Option.some.injEq, Prod.mk.injEq] at H
    obtain ⟨rfl, rfl⟩ := H
    go_enter Try.func12, Try.ntmps12
    go_wp2_with (first | ((with_reducible refine gate_dst (N := 1) rfl ?_); refine box_event ?hg (N := 1) ?hd (cs := #[.int .u8 a0_0, .int .i64 a0_1, .int .i64 a0_2, .slice A0_3 l0_3.length c0_3, .slice A0_4 l0_4.length c0_4]) (t := 27) ?hr ?_; (case hd => rfl); (case hg => rfl); (case hr => first | (go_simp; done) | (go_simp; rfl)); intro gb144 hg w25 hbox hb; have BK144 := Aside0.mk (hbox); have GW144 := Aside0.mk ((by rw [hg]; exact (below_size (upB0 HB.out)) : w.heap.size ≤ gb144)); have GE144 := Aside0.mk ((by rw [hg]; exact (below_size (upB0 HB.out)) : w.heap.size ≤ gb144)); replace HB := Aside0.mk (below_step (upB0 HB.out) hb); clear hb hbox hg; obtain ⟨hcz26_0, hcz26_1, hcz26_2, hcz26_3, hcz26_4, hfz26_0, hfz26_1, hfz26_2, hfz26_3, hfz26_4⟩ := cells5 BK144.out) | ((with_reducible refine gate_callee (f := 19) rfl ?_); refine goesL_ (some 8) rfl rfl Try.func19 (by kernel_rfl) rfl #[.agg #[.int .u8 a0_0, .int .i64 a0_1, .int .i64 a0_2, .slice A0_3 l0_3.length c0_3, .slice A0_4 l0_4.length c0_4]] rfl argA ?_; (with_reducible refine (block_Form.calls a0_0 a0_1 a0_2 _ _ l0_3 _ _ l0_4 t145 _ ?side1 ?side2 ?side3 ?side4 A2.out).mono ?_); (case side1 => exact upC ((Kd.C_below HR0_3.out HB.out))); (case side2 => exact HC0_3.out); (case side3 => exact upC ((Kd.C_below HR0_4.out HB.out))); (case side4 => exact HC0_4.out); rintro e w27 ⟨rfl, hb⟩; refine ⟨_, rfl, ?_⟩; replace BK144 := Aside0.mk (blk_below (upK BK144.out) hb); replace HB := Aside0.mk (below_step (upB1 HB.out GE144.out) hb); (try clear hb); (try clear hb2); (try clear hk); (try clear hi)))
    go_ret2
    exact ⟨_, by first | rfl | (simp [errW_none, errW_some] <;> rfl) | (simp [*, errW_none, errW_some] <;> rfl), by first | exact Kd.R_nil _ _ _ _ _ | exact Kd.N_nil _ _ _ _ _ | exact Kd.V_nil _ _ _ _ _ | exact Kd.Q_nil _ _ _ _ _ | exact Kd.S_nil _ _ _ _ _, upB1 HB.out GE144.out⟩

end Go.Proofs.Ytogjpilkgghidaa.F
