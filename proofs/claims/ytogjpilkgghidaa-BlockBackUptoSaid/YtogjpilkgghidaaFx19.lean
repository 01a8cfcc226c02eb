-- Written by ext (this session's own program).
import Derived.Test.YtogjpilkgghidaaFx0
import Derived.Test.YtogjpilkgghidaaFx5
import Derived.Test.YtogjpilkgghidaaFx18
namespace Go.Proofs.Ytogjpilkgghidaa.F
open Go.RowKit Go.Proofs.YtogjpilkgghidaaW.PrintWords Go.Proofs.YtogjpilkgghidaaW.PrintLast Go.Proofs.YtogjpilkgghidaaW.PrintMore
attribute [local go_sem] max2_int min2_int max_two min_two max_three min_three max_four min_four   -- for this text's walks alone
set_option linter.unusedVariables false
set_option linter.unusedSimpArgs false

/-! ### plinthref01_PutText: function 34 -/
def plinthref01_PutText.f (k : Nat) (l0 : List Int) (l1 : List Int) : Option (List Int × Int) := if (l1.length : Int) > 16777216 then (some (([] : List Int), 2)) else ((plinthref01_Put.f k l0 (IntKind.u64.wrap ((l1.length : Int))) 4).bind fun bt254 => (if bt254.1.length + l1.length < 140737488355328 then (some ((bt254.1 ++ l1), 0)) else (none)))
theorem plinthref01_PutText.mono : ∀ a0 a1 k, LeO (plinthref01_PutText.f k a0 a1) (plinthref01_PutText.f (k + 1) a0 a1) := by
  intro a0 a1 k
  unfold plinthref01_PutText.f
  repeat' first
      | (with_reducible exact plinthref01_Put.mono _ _ _ _)
      | (with_reducible exact LeO.refl _)
      | (with_reducible exact LeO.none _)
      | (with_reducible refine LeO.ite ?_ ?_)
      | (with_reducible refine LeO.bind ?_ (fun _ => ?_))
      | exact plinthref01_Put.mono _ _ _ _
      | exact LeO.none _
      | refine LeO.ite ?_ ?_
      | refine LeO.bind ?_ (fun _ => ?_)
set_option maxHeartbeats 8000000 in
set_option maxRecDepth 100000 in
theorem plinthref01_PutText.calls (k : Nat) (A0 : Option Addr) (c0 : Nat) (l0 : List Int) (A1 : Option Addr) (c1 : Nat) (l1 : List Int) (r1 : List Int) (r2 : Int) (w : World) (hr0 : Kd.C (Kd.int .u8) w A0 l0.length l0) (hc0 : l0.length ≤ c0) (hr1 : Kd.C (Kd.int .u8) w A1 l1.length l1) (hc1 : l1.length ≤ c1) (h : plinthref01_PutText.f k l0 l1 = some (r1, r2)) :
    Calls Try.prog 34 #[.slice A0 l0.length c0, .slice A1 l1.length c1] w fun e w' => ∃ v0_ : Value, e = .returned (.tuple #[v0_, .int .i64 r2]) ∧ Kd.R (Kd.int .u8) 5 w' w.heap.size (fun _ => True) v0_ r1 ∧ Below w.heap.size w w' := by
  have HR0 := Aside0.mk hr0
  have HC0 := Aside0.mk hc0
  clear hr0 hc0
  have HR1 := Aside0.mk hr1
  have HC1 := Aside0.mk hc1
  clear hr1 hc1
  have HB := Aside0.mk (Below.refl w.heap.size w)
  have H : (if (l1.length : Int) > 16777216 then (some (([] : List Int), 2)) else ((plinthref01_Put.f k l0 (IntKind.u64.wrap ((l1.length : Int))) 4).bind fun bt254 => (if bt254.1.length + l1.length < 140737488355328 then (some ((bt254.1 ++ l1), 0)) else (none)))) = some (r1, r2) := h
  clear h
  by_cases c3 : (l1.length : Int) > 16777216
  · rw [if_pos c3] at H
    have c3b0 : decide (16777216 < (l1.length : Int)) = true := decide_eq_true c3
    have c3b1 : decide (16777216 < l1.length) = true := decide_eq_true (by omega)
    clear c3
    simp only [Option.some.injEq, Prod.mk.injEq] at H
    obtain ⟨rfl, rfl⟩ := H
    go_enter Try.func34, Try.ntmps34
    go_wp2
    go_ret2
    exact ⟨_, by first | rfl | (simp [errW_none, errW_some] <;> rfl) | (simp [*, errW_none, errW_some] <;> rfl), by first | exact Kd.R_nil _ _ _ _ _ | exact Kd.N_nil _ _ _ _ _ | exact Kd.V_nil _ _ _ _ _ | exact Kd.Q_nil _ _ _ _ _ | exact Kd.S_nil _ _ _ _ _, upB0 HB.out⟩
  · rw [if_neg c3] at H
    have c3b0 : decide (16777216 < (l1.length : Int)) = false := decide_eq_false c3
    have c3b1 : decide (16777216 < l1.length) = false := decide_eq_false (by omega)
    clear c3
    replace H := Option.bind_eq_some_iff.mp H
    obtain ⟨⟨t254, t255⟩, A40, H⟩ := H
    replace H : (if t254.length + l1.length < 140737488355328 then (some ((t254 ++ l1), 0)) else (none)) = some (r1, r2) := H
    have A4 := Aside0.mk A40
    clear A40
    by_cases c5 : t254.length + l1.length < 140737488355328
    · rw [if_pos c5] at H
      have LMc5 := Aside0.mk c5
      clear c5
      obtain ⟨y258, hy258⟩ : ∃ y_ : List Int, y_ = (t254 ++ l1) := ⟨_, rfl⟩
      replace H : (some (y258, 0)) = some (r1, r2) := by first | (rw [hy258]; with_reducible exact H) | (have H2_ := (Option.bind_some _ _).symm.trans H; rw [hy258]; with_reducible exact H2_) | (have H2_ := (Option.bind_some _ _).symm.trans H; with_reducible exact H2_) | with_reducible exact H | (rw [hy258]; exact H) | exact H
      have Ny258 := Aside0.mk hy258
      clear hy258
      simp only [Option.some.injEq, Prod.mk.injEq] at H
      obtain ⟨rfl, rfl⟩ := H
      go_enter Try.func34, Try.ntmps34
      go_wp2_with (first | ((with_reducible refine gate_callee (f := 33) rfl ?_); refine goesL_ (some 16) rfl rfl Try.func33 (by kernel_rfl) rfl #[.slice A0 l0.length c0, .int .u64 (IntKind.u64.wrap ((l1.length : Int))), .int .i64 4] rfl argA ?_; (with_reducible refine (plinthref01_Put.calls k _ _ l0 (IntKind.u64.wrap ((l1.length : Int))) 4 t254 t255 _ ?side1 ?side2 A4.out).mono ?_); (case side1 => exact upC (HR0.out)); (case side2 => exact HC0.out); rintro e w6 ⟨v256, rfl, ho0, hb⟩; refine ⟨_, rfl, ?_⟩; have HO257 := Aside0.mk (Kd.R_lower ho0 (below_size (upB0 HB.out))); replace HB := Aside0.mk (below_step (upB0 HB.out) hb); (try clear hb); (try clear hb2); (try clear hk); (try clear hi); (try clear ho0)) | ((with_reducible refine gate_builtin (b := .append) (xs := #[.tmp 19, .tmp 20]) rfl ?_); at_builtin; refine Kd.R_append_rows (Kd.int .u8) (w0 := w) w.heap.size rfl (.tmp 19) (.tmp 20) 25 5 (.int .u8 0) 1 rfl Try.underlying25 info5 rfl (by decide) (by omega) v256 t254 l1 _ _ _ (fun _ => True) (fun _ => False) rfl rfl ?aO ?aR (fun _ _ h => h) (fun _ h => h.elim) ?aF ?aB ?aS ?aL ?_; (case aR => exact upC ((Kd.C_below HR1.out HB.out))); (case aB => exact (upB0 HB.out)); (case aF => exact (fun _ _ => trivial)); (case aO => exact (upR HO257.out)); (case aS => exact (below_size (upB0 HB.out))); (case aL => have := LMc5.out; omega); intro v259 w7 ho hb hg hat; rw [← Ny258.out] at ho; have n0_ := Aside0.mk (hb); have n1_ := Aside0.mk (ho); clear HB; clear HO257; have HB := n0_; have HO260 := n1_; clear n0_ n1_; clear ho hb hg hat))
      go_ret2
      exact ⟨_, by first | rfl | (simp [errW_none, errW_some] <;> rfl) | (simp [*, errW_none, errW_some] <;> rfl), by refine upR ?_; exact HO260.out, upB0 HB.out⟩
    · rw [if_neg c5] at H
      exact absurd H (by simp)

/-! ### plinthref04_EncodeOp: function 13 -/
def plinthref04_EncodeOp.f (k : Nat) (a0_0 : Int) (a0_1 : Int) (a0_2 : Int) (l0_3 : List Int) (l0_4 : List Int) : Option (List Int × Int) := (plinthref04_Form.f k a0_0 a0_1 a0_2 l0_3 l0_4).bind fun t262 => (if t262 = 0 then ((plinthref01_Put.f k (([a0_0] : List Int)) (IntKind.u64.wrap (a0_1)) 4).bind fun bt266 => ((plinthref01_Put.f k bt266.1 (IntKind.u64.wrap (a0_2)) 4).bind fun bt270 => ((plinthref01_PutText.f k bt270.1 l0_3).bind fun bt274 => ((plinthref01_PutText.f k bt274.1 l0_4).bind fun bt278 => (some (bt278.1, 0)))))) else (some (([] : List Int), t262)))
theorem plinthref04_EncodeOp.mono : ∀ a0 a1 a2 a3 a4 k, LeO (plinthref04_EncodeOp.f k a0 a1 a2 a3 a4) (plinthref04_EncodeOp.f (k + 1) a0 a1 a2 a3 a4) := by
  intro a0 a1 a2 a3 a4 k
  unfold plinthref04_EncodeOp.f
  repeat' first
      | (with_reducible exact plinthref01_Put.mono _ _ _ _)
      | (with_reducible exact plinthref01_PutText.mono _ _ _)
      | (with_reducible exact plinthref04_Form.mono _ _ _ _ _ _)
      | (with_reducible exact LeO.refl _)
      | (with_reducible exact LeO.none _)
      | (with_reducible refine LeO.ite ?_ ?_)
      | (with_reducible refine LeO.bind ?_ (fun _ => ?_))
      | exact plinthref01_Put.mono _ _ _ _
      | exact plinthref01_PutText.mono _ _ _
      | exact plinthref04_Form.mono _ _ _ _ _ _
      | exact LeO.none _
      | refine LeO.ite ?_ ?_
      | refine LeO.bind ?_ (fun _ => ?_)
set_option maxHeartbeats 8000000 in
set_option maxRecDepth 100000 in
theorem plinthref04_EncodeOp.calls (k : Nat) (a0_0 : Int) (a0_1 : Int) (a0_2 : Int) (A0_3 : Option Addr) (c0_3 : Nat) (l0_3 : List Int) (A0_4 : Option Addr) (c0_4 : Nat) (l0_4 : List Int) (r1 : List Int) (r2 : Int) (w : World) (hr0_3 : Kd.C (Kd.int .u8) w A0_3 l0_3.length l0_3) (hc0_3 : l0_3.length ≤ c0_3) (hr0_4 : Kd.C (Kd.int .u8) w A0_4 l0_4.length l0_4) (hc0_4 : l0_4.length ≤ c0_4) (h : plinthref04_EncodeOp.f k a0_0 a0_1 a0_2 l0_3 l0_4 = some (r1, r2)) :
    Calls Try.prog 13 #[.agg #[.int .u8 a0_0, .int .i64 a0_1, .int .i64 a0_2, .slice A0_3 l0_3.length c0_3, .slice A0_4 l0_4.length c0_4]] w fun e w' => ∃ v0_ : Value, e = .returned (.tuple #[v0_, .int .i64 r2]) ∧ Kd.R (Kd.int .u8) 5 w' w.heap.size (fun _ => True) v0_ r1 ∧ Below w.heap.size w w' := by
  have hu27 := Try.underlying27
  have HR0_3 := Aside0.mk hr0_3
  have HC0_3 := Aside0.mk hc0_3
  clear hr0_3 hc0_3
  have HR0_4 := Aside0.mk hr0_4
  have HC0_4 := Aside0.mk hc0_4
  clear hr0_4 hc0_4
  have HB := Aside0.mk (Below.refl w.heap.size w)
  have H : ((plinthref04_Form.f k a0_0 a0_1 a0_2 l0_3 l0_4).bind fun t262 => (if t262 = 0 then ((plinthref01_Put.f k (([a0_0] : List Int)) (IntKind.u64.wrap (a0_1)) 4).bind fun bt266 => ((plinthref01_Put.f k bt266.1 (IntKind.u64.wrap (a0_2)) 4).bind fun bt270 => ((plinthref01_PutText.f k bt270.1 l0_3).bind fun bt274 => ((plinthref01_PutText.f k bt274.1 l0_4).bind fun bt278 => (some (bt278.1, 0)))))) else (some (([] : List Int), t262)))) = some (r1, r2) := h
  clear h
  replace H := Option.bind_eq_some_iff.mp H
  obtain ⟨t262, A20, H⟩ := H
  replace H : (if t262 = 0 then ((plinthref01_Put.f k (([a0_0] : List Int)) (IntKind.u64.wrap (a0_1)) 4).bind fun bt266 => ((plinthref01_Put.f k bt266.1 (IntKind.u64.wrap (a0_2)) 4).bind fun bt270 => ((plinthref01_PutText.f k bt270.1 l0_3).bind fun bt274 => ((plinthref01_PutText.f k bt274.1 l0_4).bind fun bt278 => (some (bt278.1, 0)))))) else (some (([] : List Int), t262))) = some (r1, r2) := H
  have A2 := Aside0.mk A20
  clear A20
  by_cases c3 : t262 = 0
  · rw [if_pos c3] at H
    have c3b0 : (t262 == 0) = true := beq_iff_eq.mpr c3
    have c3b1 : (t262 != 0) = false := bne_eq_false_iff_eq.mpr c3
    clear c3
    obtain ⟨y263, hy263⟩ : ∃ y_ : List Int, y_ = (([a0_0] : List Int)) := ⟨_, rfl⟩
    replace H : ((plinthref01_Put.f k y263 (IntKind.u64.wrap (a0_1)) 4).bind fun bt266 => ((plinthref01_Put.f k bt266.1 (IntKind.u64.wrap (a0_2)) 4).bind fun bt270 => ((plinthref01_PutText.f k bt270.1 l0_3).bind fun bt274 => ((plinthref01_PutText.f k bt274.1 l0_4).bind fun bt278 => (some (bt278.1, 0)))))) = some (r1, r2) := by first | (rw [hy263]; with_reducible exact H) | (have H2_ := (Option.bind_some _ _).symm.trans H; rw [hy263]; with_reducible exact H2_) | (have H2_ := (Option.bind_some _ _).symm.trans H; with_reducible exact H2_) | with_reducible exact H | (rw [hy263]; exact H) | exact H
    have Ny263 := Aside0.mk hy263
    clear hy263
    replace H := Option.bind_eq_some_iff.mp H
    obtain ⟨⟨t266, t267⟩, A40, H⟩ := H
    replace H : ((plinthref01_Put.f k t266 (IntKind.u64.wrap (a0_2)) 4).bind fun bt270 => ((plinthref01_PutText.f k bt270.1 l0_3).bind fun bt274 => ((plinthref01_PutText.f k bt274.1 l0_4).bind fun bt278 => (some (bt278.1, 0))))) = some (r1, r2) := H
    have A4 := Aside0.mk A40
    clear A40
    replace H := Option.bind_eq_some_iff.mp H
    obtain ⟨⟨t270, t271⟩, A50, H⟩ := H
    replace H : ((plinthref01_PutText.f k t270 l0_3).bind fun bt274 => ((plinthref01_PutText.f k bt274.1 l0_4).bind fun bt278 => (some (bt278.1, 0)))) = some (r1, r2) := H
    have A5 := Aside0.mk A50
    clear A50
    replace H := Option.bind_eq_some_iff.mp H
    obtain ⟨⟨t274, t275⟩, A60, H⟩ := H
    replace H : ((plinthref01_PutText.f k t274 l0_4).bind fun bt278 => (some (bt278.1, 0))) = some (r1, r2) := H
    have A6 := Aside0.mk A60
    clear A60
    replace H := Option.bind_eq_some_iff.mp H
    obtain ⟨⟨t278, t279⟩, A70, H⟩ := H
    replace H : (some (t278, 0)) = some (r1, r2) := H
    have A7 := Aside0.mk A70
    clear A70
    simp only [Option.some.injEq, Prod.mk.injEq] at H
    obtain ⟨rfl, rfl⟩ := H
    go_enter Try.func13, Try.ntmps13
    go_wp2_with (first | ((with_reducible refine gate_dst (N := 1) rfl ?_); refine box_event ?hg (N := 1) ?hd (cs := #[.int .u8 a0_0, .int .i64 a0_1, .int .i64 a0_2, .slice A0_3 l0_3.length c0_3, .slice A0_4 l0_4.length c0_4]) (t := 27) ?hr ?_; (case hd => rfl); (case hg => rfl); (case hr => first | (go_simp; done) | (go_simp; rfl)); intro gb261 hg w8 hbox hb; have BK261 := Aside0.mk (hbox); have GW261 := Aside0.mk ((by rw [hg]; exact (below_size (upB0 HB.out)) : w.heap.size ≤ gb261)); have GE261 := Aside0.mk ((by rw [hg]; exact (below_size (upB0 HB.out)) : w.heap.size ≤ gb261)); replace HB := Aside0.mk (below_step (upB0 HB.out) hb); clear hb hbox hg; obtain ⟨hcz9_0, hcz9_1, hcz9_2, hcz9_3, hcz9_4, hfz9_0, hfz9_1, hfz9_2, hfz9_3, hfz9_4⟩ := cells5 BK261.out) | ((with_reducible refine gate_callee (f := 20) rfl ?_); refine goesL_ (some 7) rfl rfl Try.func20 (by kernel_rfl) rfl #[.agg #[.int .u8 a0_0, .int .i64 a0_1, .int .i64 a0_2, .slice A0_3 l0_3.length c0_3, .slice A0_4 l0_4.length c0_4]] rfl argA ?_; (with_reducible refine (plinthref04_Form.calls k a0_0 a0_1 a0_2 _ _ l0_3 _ _ l0_4 t262 _ ?side1 ?side2 ?side3 ?side4 A2.out).mono ?_); (case side1 => exact upC ((Kd.C_below HR0_3.out HB.out))); (case side2 => exact HC0_3.out); (case side3 => exact upC ((Kd.C_below HR0_4.out HB.out))); (case side4 => exact HC0_4.out); rintro e w10 ⟨rfl, hb⟩; refine ⟨_, rfl, ?_⟩; replace BK261 := Aside0.mk (blk_below (upK BK261.out) hb); replace HB := Aside0.mk (below_step (upB1 HB.out GE261.out) hb); (try clear hb); (try clear hb2); (try clear hk); (try clear hi); obtain ⟨hcz11_0, hcz11_1, hcz11_2, hcz11_3, hcz11_4, hfz11_0, hfz11_1, hfz11_2, hfz11_3, hfz11_4⟩ := cells5 BK261.out) | ((with_reducible refine gate_dst (N := 13) rfl ?_); refine Kd.R_lit (Kd.int .u8) _ 5 ?hg (N := 13) ?hd (xs := ([a0_0] : List Int)) (inner := [.int .u8 a0_0]) (ok := fun _ => True) (okp := fun _ => True) ?hr ?hp (fun _ hk => hk) trivial (Below.refl _ _) (Nat.le_refl _) (by simp) ?_; (case hd => rfl); (case hg => rfl); (case hr => first | (go_simp; done) | (go_simp; rfl)); (case hp => exact (Reps.one (show Kd.M (Kd.int .u8) _ _ _ a0_0 [.int .u8 a0_0] from rfl) (Reps.none _ _))); intro v264 w12 ho13 hb hg_ hnew_; clear hg_ hnew_; (first | rw [← Ny263.out] at ho13 | (simp only [Int.reduceToNat] at ho13; rw [← Ny263.out] at ho13)); have HO265 := Aside0.mk (Kd.R_lower ho13 (below_size (upB1 HB.out GE261.out))); replace BK261 := Aside0.mk (blk_below (upK BK261.out) hb); replace HB := Aside0.mk (below_step (upB1 HB.out GE261.out) hb); clear hb ho13; obtain ⟨hcz14_0, hcz14_1, hcz14_2, hcz14_3, hcz14_4, hfz14_0, hfz14_1, hfz14_2, hfz14_3, hfz14_4⟩ := cells5 BK261.out; obtain ⟨Ao15, co15, eo15⟩ := Kd.R_slice HO265.out; subst eo15) | ((with_reducible refine gate_callee (f := 33) rfl ?_); refine goesL_ (some 19) rfl rfl Try.func33 (by kernel_rfl) rfl #[.slice Ao15 y263.length co15, .int .u64 (IntKind.u64.wrap (a0_1)), .int .i64 4] rfl argA ?_; (with_reducible refine (plinthref01_Put.calls k _ _ y263 (IntKind.u64.wrap (a0_1)) 4 t266 t267 _ ?side1 ?side2 A4.out).mono ?_); (case side1 => exact upC ((Kd.R_reads' HO265.out).2.2)); (case side2 => exact (Kd.R_reads' HO265.out).2.1); rintro e w16 ⟨v268, rfl, ho0, hb⟩; refine ⟨_, rfl, ?_⟩; have HO269 := Aside0.mk (Kd.R_lower (Kd.R_new' ho0 (Kd.R_lt (upR HO265.out))) (below_size (upB1 HB.out GE261.out))); replace HO265 := Aside0.mk (Kd.R_elder' (upR HO265.out) (Kd.R_base ho0) hb); replace BK261 := Aside0.mk (blk_below (upK BK261.out) hb); replace HB := Aside0.mk (below_step (upB1 HB.out GE261.out) hb); (try clear hb); (try clear hb2); (try clear hk); (try clear hi); (try clear ho0); obtain ⟨hcz17_0, hcz17_1, hcz17_2, hcz17_3, hcz17_4, hfz17_0, hfz17_1, hfz17_2, hfz17_3, hfz17_4⟩ := cells5 BK261.out; obtain ⟨Ao18, co18, eo18⟩ := Kd.R_slice HO269.out; subst eo18) | ((with_reducible refine gate_callee (f := 33) rfl ?_); refine goesL_ (some 27) rfl rfl Try.func33 (by kernel_rfl) rfl #[.slice Ao18 t266.length co18, .int .u64 (IntKind.u64.wrap (a0_2)), .int .i64 4] rfl argA ?_; (with_reducible refine (plinthref01_Put.calls k _ _ t266 (IntKind.u64.wrap (a0_2)) 4 t270 t271 _ ?side1 ?side2 A5.out).mono ?_); (case side1 => exact upC ((Kd.R_reads' HO269.out).2.2)); (case side2 => exact (Kd.R_reads' HO269.out).2.1); rintro e w19 ⟨v272, rfl, ho0, hb⟩; refine ⟨_, rfl, ?_⟩; have HO273 := Aside0.mk (Kd.R_lower (Kd.R_new' (Kd.R_new' ho0 (Kd.R_lt (upR HO265.out))) (Kd.R_lt (upR HO269.out))) (below_size (upB1 HB.out GE261.out))); replace HO265 := Aside0.mk (Kd.R_elder' (upR HO265.out) (Kd.R_base ho0) hb); replace HO269 := Aside0.mk (Kd.R_elder' (upR HO269.out) (Kd.R_base ho0) hb); replace BK261 := Aside0.mk (blk_below (upK BK261.out) hb); replace HB := Aside0.mk (below_step (upB1 HB.out GE261.out) hb); (try clear hb); (try clear hb2); (try clear hk); (try clear hi); (try clear ho0); obtain ⟨hcz20_0, hcz20_1, hcz20_2, hcz20_3, hcz20_4, hfz20_0, hfz20_1, hfz20_2, hfz20_3, hfz20_4⟩ := cells5 BK261.out; obtain ⟨Ao21, co21, eo21⟩ := Kd.R_slice HO273.out; subst eo21) | ((with_reducible refine gate_callee (f := 34) rfl ?_); refine goesL_ (some 34) rfl rfl Try.func34 (by kernel_rfl) rfl #[.slice Ao21 t270.length co21, .slice A0_3 l0_3.length c0_3] rfl argA ?_; (with_reducible refine (plinthref01_PutText.calls k _ _ t270 _ _ l0_3 t274 t275 _ ?side1 ?side2 ?side3 ?side4 A6.out).mono ?_); (case side1 => exact upC ((Kd.R_reads' HO273.out).2.2)); (case side2 => exact (Kd.R_reads' HO273.out).2.1); (case side3 => exact upC ((Kd.C_below HR0_3.out HB.out))); (case side4 => exact HC0_3.out); rintro e w22 ⟨v276, rfl, ho0, hb⟩; refine ⟨_, rfl, ?_⟩; have HO277 := Aside0.mk (Kd.R_lower (Kd.R_new' (Kd.R_new' (Kd.R_new' ho0 (Kd.R_lt (upR HO265.out))) (Kd.R_lt (upR HO269.out))) (Kd.R_lt (upR HO273.out))) (below_size (upB1 HB.out GE261.out))); replace HO265 := Aside0.mk (Kd.R_elder' (upR HO265.out) (Kd.R_base ho0) hb); replace HO269 := Aside0.mk (Kd.R_elder' (upR HO269.out) (Kd.R_base ho0) hb); replace HO273 := Aside0.mk (Kd.R_elder' (upR HO273.out) (Kd.R_base ho0) hb); replace BK261 := Aside0.mk (blk_below (upK BK261.out) hb); replace HB := Aside0.mk (below_step (upB1 HB.out GE261.out) hb); (try clear hb); (try clear hb2); (try clear hk); (try clear hi); (try clear ho0); obtain ⟨hcz23_0, hcz23_1, hcz23_2, hcz23_3, hcz23_4, hfz23_0, hfz23_1, hfz23_2, hfz23_3, hfz23_4⟩ := cells5 BK261.out; obtain ⟨Ao24, co24, eo24⟩ := Kd.R_slice HO277.out; subst eo24) | ((with_reducible refine gate_callee (f := 34) rfl ?_); refine goesL_ (some 41) rfl rfl Try.func34 (by kernel_rfl) rfl #[.slice Ao24 t274.length co24, .slice A0_4 l0_4.length c0_4] rfl argA ?_; (with_reducible refine (plinthref01_PutText.calls k _ _ t274 _ _ l0_4 t278 t279 _ ?side1 ?side2 ?side3 ?side4 A7.out).mono ?_); (case side1 => exact upC ((Kd.R_reads' HO277.out).2.2)); (case side2 => exact (Kd.R_reads' HO277.out).2.1); (case side3 => exact upC ((Kd.C_below HR0_4.out HB.out))); (case side4 => exact HC0_4.out); rintro e w25 ⟨v280, rfl, ho0, hb⟩; refine ⟨_, rfl, ?_⟩; have HO281 := Aside0.mk (Kd.R_lower (Kd.R_new' (Kd.R_new' (Kd.R_new' (Kd.R_new' ho0 (Kd.R_lt (upR HO265.out))) (Kd.R_lt (upR HO269.out))) (Kd.R_lt (upR HO273.out))) (Kd.R_lt (upR HO277.out))) (below_size (upB1 HB.out GE261.out))); replace HO265 := Aside0.mk (Kd.R_elder' (upR HO265.out) (Kd.R_base ho0) hb); replace HO269 := Aside0.mk (Kd.R_elder' (upR HO269.out) (Kd.R_base ho0) hb); replace HO273 := Aside0.mk (Kd.R_elder' (upR HO273.out) (Kd.R_base ho0) hb); replace HO277 := Aside0.mk (Kd.R_elder' (upR HO277.out) (Kd.R_base ho0) hb); replace BK261 := Aside0.mk (blk_below (upK BK261.out) hb); replace HB := Aside0.mk (below_step (upB1 HB.out GE261.out) hb); (try clear hb); (try clear hb2); (try clear hk); (try clear hi); (try clear ho0)))
    go_ret2
    exact ⟨_, by first | rfl | (simp [errW_none, errW_some] <;> rfl) | (simp [*, errW_none, errW_some] <;> rfl), by refine upR ?_; exact Kd.R_mono HO281.out (fun _ hk => trivial), upB1 HB.out GE261.out⟩
  · rw [if_neg c3] at H
    have c3b0 : (t262 == 0) = false := beq_eq_false_iff_ne.mpr c3
    have c3b1 : (t262 != 0) = true := bne_iff_ne.mpr c3
    simp only [Option.some.injEq, Prod.mk.injEq] at H
    obtain ⟨rfl, rfl⟩ := H
    go_enter Try.func13, Try.ntmps13
    go_wp2_with (first | ((with_reducible refine gate_dst (N := 1) rfl ?_); refine box_event ?hg (N := 1) ?hd (cs := #[.int .u8 a0_0, .int .i64 a0_1, .int .i64 a0_2, .slice A0_3 l0_3.length c0_3, .slice A0_4 l0_4.length c0_4]) (t := 27) ?hr ?_; (case hd => rfl); (case hg => rfl); (case hr => first | (go_simp; done) | (go_simp; rfl)); intro gb261 hg w26 hbox hb; have BK261 := Aside0.mk (hbox); have GW261 := Aside0.mk ((by rw [hg]; exact (below_size (upB0 HB.out)) : w.heap.size ≤ gb261)); have GE261 := Aside0.mk ((by rw [hg]; exact (below_size (upB0 HB.out)) : w.heap.size ≤ gb261)); replace HB := Aside0.mk (below_step (upB0 HB.out) hb); clear hb hbox hg; obtain ⟨hcz27_0, hcz27_1, hcz27_2, hcz27_3, hcz27_4, hfz27_0, hfz27_1, hfz27_2, hfz27_3, hfz27_4⟩ := cells5 BK261.out) | ((with_reducible refine gate_callee (f := 20) rfl ?_); refine goesL_ (some 7) rfl rfl Try.func20 (by kernel_rfl) rfl #[.agg #[.int .u8 a0_0, .int .i64 a0_1, .int .i64 a0_2, .slice A0_3 l0_3.length c0_3, .slice A0_4 l0_4.length c0_4]] rfl argA ?_; (with_reducible refine (plinthref04_Form.calls k a0_0 a0_1 a0_2 _ _ l0_3 _ _ l0_4 t262 _ ?side1 ?side2 ?side3 ?side4 A2.out).mono ?_); (case side1 => exact upC ((Kd.C_below HR0_3.out HB.out))); (case side2 => exact HC0_3.out); (case side3 => exact upC ((Kd.C_below HR0_4.out HB.out))); (case side4 => exact HC0_4.out); rintro e w28 ⟨rfl, hb⟩; refine ⟨_, rfl, ?_⟩; replace BK261 := Aside0.mk (blk_below (upK BK261.out) hb); replace HB := Aside0.mk (below_step (upB1 HB.out GE261.out) hb); (try clear hb); (try clear hb2); (try clear hk); (try clear hi)))
    go_ret2
    exact ⟨_, by first | rfl | (simp [errW_none, errW_some] <;> rfl) | (simp [*, errW_none, errW_some] <;> rfl), by first | exact Kd.R_nil _ _ _ _ _ | exact Kd.N_nil _ _ _ _ _ | exact Kd.V_nil _ _ _ _ _ | exact Kd.Q_nil _ _ _ _ _ | exact Kd.S_nil _ _ _ _ _, upB1 HB.out GE261.out⟩

end Go.Proofs.Ytogjpilkgghidaa.F
