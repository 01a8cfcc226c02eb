-- Written by ext (this session's own program).
import Derived.Test.YtcajcbeioilgmaaFx0
import Derived.Test.YtcajcbeioilgmaaFx12
namespace Go.Proofs.Ytcajcbeioilgmaa.F
open Go.RowKit Go.Proofs.YtcajcbeioilgmaaW.PrintWords Go.Proofs.YtcajcbeioilgmaaW.PrintLast Go.Proofs.YtcajcbeioilgmaaW.PrintMore
attribute [local go_sem] max2_int min2_int max_two min_two max_three min_three max_four min_four   -- for this text's walks alone
set_option linter.unusedVariables false
set_option linter.unusedSimpArgs false

/-! ### plinthref03_Scan: function 21 -/
def plinthref03_Scan.l0 : Nat → List Int → List (S26) → Int → Option ((List (S26)) × Int)
  | 0, _, _, _ => none
  | k + 1, x0, x4, x5 => (plinthref03_Read.f k x0 x5).bind fun bt485 => (if bt485.2.2.2.2 = 0 then (if x4.length < 3518437208883 then (plinthref03_Scan.l0 k x0 (x4 ++ [(⟨bt485.1, bt485.2.1, bt485.2.2.1⟩ : S26)]) bt485.2.2.2.1) else (none)) else (some (x4, x5)))
def plinthref03_Scan.f (k : Nat) (l0 : List Int) : Option ((List (S26)) × Int) := plinthref03_Scan.l0 k l0 ([] : List (S26)) 0
theorem plinthref03_Scan.mono_l : ∀ k, (∀ y0 y1 y2, LeO (plinthref03_Scan.l0 k y0 y1 y2) (plinthref03_Scan.l0 (k + 1) y0 y1 y2))
  | 0 => fun _ _ _ r h => by simp [plinthref03_Scan.l0] at h
  | k + 1 => by
    have ih0 := plinthref03_Scan.mono_l k
    · intro y0 y1 y2
      unfold plinthref03_Scan.l0
      repeat' first
      | (with_reducible exact ih0 _ _ _)
      | (with_reducible exact plinthref03_Read.mono _ _ _)
      | (with_reducible exact LeO.refl _)
      | (with_reducible exact LeO.none _)
      | (with_reducible refine LeO.ite ?_ ?_)
      | (with_reducible refine LeO.bind ?_ (fun _ => ?_))
      | exact ih0 _ _ _
      | exact plinthref03_Read.mono _ _ _
      | exact LeO.none _
      | refine LeO.ite ?_ ?_
      | refine LeO.bind ?_ (fun _ => ?_)
theorem plinthref03_Scan.mono : ∀ a0 k, LeO (plinthref03_Scan.f k a0) (plinthref03_Scan.f (k + 1) a0) := by
  intro a0 k
  have ih0 := plinthref03_Scan.mono_l k
  unfold plinthref03_Scan.f
  repeat' first
      | (with_reducible exact ih0 _ _ _)
      | (with_reducible exact plinthref03_Read.mono _ _ _)
      | (with_reducible exact LeO.refl _)
      | (with_reducible exact LeO.none _)
      | (with_reducible refine LeO.ite ?_ ?_)
      | (with_reducible refine LeO.bind ?_ (fun _ => ?_))
      | exact ih0 _ _ _
      | exact plinthref03_Read.mono _ _ _
      | exact LeO.none _
      | refine LeO.ite ?_ ?_
      | refine LeO.bind ?_ (fun _ => ?_)
set_option maxHeartbeats 8000000 in
set_option maxRecDepth 100000 in
theorem plinthref03_Scan.calls (k : Nat) (A0 : Option Addr) (c0 : Nat) (l0 : List Int) (r1 : List (S26)) (r2 : Int) (w : World) (hr0 : Kd.C (Kd.int .u8) w A0 l0.length l0) (hc0 : l0.length ≤ c0) (h : plinthref03_Scan.f k l0 = some (r1, r2)) :
    Calls Try.prog 21 #[.slice A0 l0.length c0] w fun e w' => ∃ v0_ : Value, e = .returned (.tuple #[v0_, .int .i64 r2]) ∧ Kd.S k26 26 w' w.heap.size (fun _ => True) v0_ r1 ∧ Below w.heap.size w w' := by
  have hu26 := Try.underlying26
  have HR0 := Aside0.mk hr0
  have HC0 := Aside0.mk hc0
  clear hr0 hc0
  have HB := Aside0.mk (Below.refl w.heap.size w)
  have H : (plinthref03_Scan.l0 k l0 ([] : List (S26)) 0) = some (r1, r2) := h
  clear h
  have H' := Aside0.mk H
  clear H
  go_enter Try.func21, Try.ntmps21
  go_wp2
  go_loopg [4, 5] k (fun kq v4 v5 w' => ∃ (x4_1 : List (S26)) (x5_1 : Int), v5 = .int .i64 x5_1 ∧ Aside0 (plinthref03_Scan.l0 kq l0 x4_1 x5_1 = some (r1, r2)) ∧ Aside0 (kq ≤ k) ∧ Aside0 (Kd.S k26 26 w' w.heap.size (fun _ => True) v4 x4_1) ∧ Aside0 (Below w.heap.size w w'))
  case atStart => exact ⟨(([] : List (S26))), (0), (by first | rfl | (simp; done) | (simp [*]; done)), H', ⟨Nat.le_refl _⟩, ⟨by first | exact Kd.S_nil _ _ _ _ _ | exact Kd.N_nil _ _ _ _ _ | exact Kd.V_nil _ _ _ _ _ | exact Kd.Q_nil _ _ _ _ _ | exact Kd.R_nil _ _ _ _ _⟩, ⟨upB0 HB.out⟩⟩
  case round =>
    clear H'
    obtain ⟨x4_1, x5_1, rfl, HA, HK1, HO_4, HB⟩ := hrel
    cases gk with
    | zero => exact absurd HA.out (by simp [plinthref03_Scan.l0])
    | succ k1 =>
      have H := HA.out
      clear HA
      simp only [plinthref03_Scan.l0] at H
      replace H := Option.bind_eq_some_iff.mp H
      obtain ⟨⟨t485, t486, t487, t490, t491⟩, A20, H⟩ := H
      replace H : (if t491 = 0 then (if x4_1.length < 3518437208883 then (plinthref03_Scan.l0 k1 l0 (x4_1 ++ [(⟨t485, t486, t487⟩ : S26)]) t490) else (none)) else (some (x4_1, x5_1))) = some (r1, r2) := H
      have A2 := Aside0.mk A20
      clear A20
      by_cases c3 : t491 = 0
      · rw [if_pos c3] at H
        have c3b0 : (t491 == 0) = true := beq_iff_eq.mpr c3
        have c3b1 : (t491 != 0) = false := bne_eq_false_iff_eq.mpr c3
        clear c3
        by_cases c4 : x4_1.length < 3518437208883
        · rw [if_pos c4] at H
          have LMc4 := Aside0.mk c4
          clear c4
          obtain ⟨y493, hy493⟩ : ∃ y_ : List (S26), y_ = (x4_1 ++ [(⟨t485, t486, t487⟩ : S26)]) := ⟨_, rfl⟩
          replace H : (plinthref03_Scan.l0 k1 l0 y493 t490) = some (r1, r2) := by first | (rw [hy493]; with_reducible exact H) | (have H2_ := (Option.bind_some _ _).symm.trans H; rw [hy493]; with_reducible exact H2_) | (have H2_ := (Option.bind_some _ _).symm.trans H; with_reducible exact H2_) | with_reducible exact H | (rw [hy493]; exact H) | exact H
          have Ny493 := Aside0.mk hy493
          clear hy493
          have H' := Aside0.mk H
          clear H
          go_wp2_with (first | ((with_reducible refine gate_callee (f := 12) rfl ?_); refine goesL_ (some 12) rfl rfl Try.func12 (by kernel_rfl) rfl #[.slice A0 l0.length c0, .int .i64 x5_1] rfl argA ?_; (with_reducible refine (plinthref03_Read.calls k1 _ _ l0 x5_1 t485 t486 t487 t490 t491 _ ?side1 ?side2 A2.out).mono ?_); (case side1 => exact upC ((Kd.C_below HR0.out HB.out))); (case side2 => exact HC0.out); rintro e w5 ⟨v488, rfl, ho0, hb⟩; refine ⟨_, rfl, ?_⟩; replace HO_4 := Aside0.mk (Kd.S_elder' (by (with_reducible repeat (first | apply Kd.S_alloc | apply Kd.S_drewN | apply Kd.S_drew)); exact HO_4.out) (Kd.R_base ho0) hb); have HO489 := Aside0.mk (Kd.R_lower ho0 (below_size (upB0 HB.out))); replace HB := Aside0.mk (below_step (upB0 HB.out) hb); (try clear hb); (try clear hb2); (try clear hk); (try clear hi); (try clear ho0)) | ((with_reducible refine gate_dst (N := 6) rfl ?_); refine box_event ?hg (N := 6) ?hd (cs := #[.int .u8 0, .int .u64 0, .slice none 0 0]) (t := 26) ?hr ?_; (case hd => rfl); (case hg => rfl); (case hr => first | (go_simp; done) | (go_simp; rfl)); intro gb492 hg w6 hbox hb; replace HO_4 := Aside0.mk (Kd.S_below (Kd.S_elderB (by (with_reducible repeat (first | apply Kd.S_alloc | apply Kd.S_drewN | apply Kd.S_drew)); exact HO_4.out) gb492 (Nat.le_of_eq hg.symm)) hb); replace HO489 := Aside0.mk (Kd.R_below (upR HO489.out) hb); have BK492 := Aside0.mk (hbox); have GW492 := Aside0.mk ((by rw [hg]; exact (below_size (upB0 HB.out)) : w.heap.size ≤ gb492)); have GE492 := Aside0.mk ((by rw [hg]; exact (below_size (upB0 HB.out)) : w.heap.size ≤ gb492)); replace HB := Aside0.mk (below_step (upB0 HB.out) hb); clear hb hbox hg; obtain ⟨hcz7_0, hcz7_1, hcz7_2, hfz7_0, hfz7_1, hfz7_2⟩ := cells3 BK492.out; obtain ⟨Ao8, co8, eo8⟩ := Kd.R_slice HO489.out; subst eo8) | ((with_reducible refine gate_store (t := 26) (p := 6) rfl ?_); refine store_event (t := 26) (p := 6) (v := ?vo_w9) (w1 := (((w6.setCell ⟨gb492, 0, none⟩ (.int .u8 t485)).setCell ⟨gb492, 1, none⟩ (.int .u64 t486)).setCell ⟨gb492, 2, none⟩ (.slice Ao8 t487.length co8))) ?hg ?ho ?hn ?hr ?_; (case ho => rfl); (case hg => rfl); (case hn => rfl); (case hr => first | (go_simp; done) | (go_simp; rfl)); intro w9 hw; have n0_ : Aside0 (Kd.S k26 26 w9 w.heap.size (fun k_ => some k_ ≠ (.slice Ao8 t487.length co8 : Value).ownBlock ∧ k_ ≠ gb492) u4 x4_1) := ⟨(by rw [hw]; exact (by (with_reducible repeat (first | apply Kd.S_alloc | apply Kd.S_drewN | apply Kd.S_drew)); exact Kd.S_mono (Kd.S_far (p := ⟨gb492, 2, none⟩) (Kd.S_far (p := ⟨gb492, 1, none⟩) (Kd.S_far (p := ⟨gb492, 0, none⟩) (Kd.S_mono HO_4.out (fun k_ hk => (⟨hk, hk.2⟩ : _ ∧ k_ ≠ gb492))) (fun _ hk => hk.2) (.int .u8 t485)) (fun _ hk => hk.2) (.int .u64 t486)) (fun _ hk => hk.2) (.slice Ao8 t487.length co8)) (fun _ hk => ⟨hk.1.1.2, hk.1.2⟩)))⟩; have n1_ : Aside0 (Kd.R (Kd.int .u8) 5 w9 w.heap.size (fun _ => True) (.slice Ao8 t487.length co8) t487) := ⟨(by rw [hw]; exact (by refine upR ?_; exact Kd.R_mono (garR3 (g := gb492) (Kd.R_types HO489.out BK492.out (by decide)) 0 (.int .u8 t485) 1 (.int .u64 t486) 2 (.slice Ao8 t487.length co8)) (fun _ hk => trivial)))⟩; have n2_ : Aside0 (w9.heap[gb492]? = some (.cells #[.int .u8 t485, .int .u64 t486, .slice Ao8 t487.length co8] 26 (0, 0))) := ⟨(by rw [hw]; exact (by refine upK ?_; refine blk_put (cs := #[.int .u8 t485, .int .u64 t486, .slice none 0 0]) ?_ 2 _ rfl; refine upK ?_; refine blk_put (cs := #[.int .u8 t485, .int .u64 0, .slice none 0 0]) ?_ 1 _ rfl; refine upK ?_; refine blk_put (cs := #[.int .u8 0, .int .u64 0, .slice none 0 0]) ?_ 0 _ rfl; refine upK ?_; exact BK492.out))⟩; have n3_ : Aside0 (Below w.heap.size w w9) := ⟨(by rw [hw]; exact (upB1 HB.out GE492.out))⟩; clear hw; clear HO_4; clear HO489; clear BK492; clear HB; have HO_4 := n0_; have HO489 := n1_; have BK492 := n2_; have HB := n3_; clear n0_ n1_ n2_ n3_; obtain ⟨hcz10_0, hcz10_1, hcz10_2, hfz10_0, hfz10_1, hfz10_2⟩ := cells3 BK492.out) | ((with_reducible refine gate_builtin (b := .append) (xs := #[.tmp 20, .tmp 22]) rfl ?_); at_builtin; refine Kd.S_append k26 (w0 := w) w.heap.size rfl (.tmp 20) (.tmp 22) 39 26 (.agg #[(.int .u8 0), (.int .u64 0), (.slice none 0 0)]) 40 rfl Try.underlying39 info26 rfl (by decide) (by omega) u4 x4_1 (⟨t485, t486, t487⟩ : S26) [.int .u8 t485, .int .u64 t486, .slice Ao8 t487.length co8] (fun k_ => k_ ≠ gb492) (fun k_ => some k_ = (.slice Ao8 t487.length co8 : Value).ownBlock) rfl rfl ?aP (fun k_ hk_ => ((Kd.R_mono (ok' := fun k_ => ((fun k_ => k_ ≠ gb492)) k_ ∧ some k_ ≠ (u4 : Value).ownBlock) (Kd.R_types (Kd.R_apart' (HO489.out) (Kd.S_typed HO_4.out) (by decide)) BK492.out (by decide)) (fun k_ hk => ⟨hk.2, hk.1.2⟩))).1 k_ hk_.symm) ?aF ?aO ?aB ?aS ?aL ?_; (case aP => exact k26_mkM _ _ _ (⟨t485, t486, t487⟩ : S26) (Kd.R_mono (Kd.R_tight rfl (Kd.R_mono (ok' := fun k_ => ((fun k_ => k_ ≠ gb492)) k_ ∧ some k_ ≠ (u4 : Value).ownBlock) (Kd.R_types (Kd.R_apart' (HO489.out) (Kd.S_typed HO_4.out) (by decide)) BK492.out (by decide)) (fun k_ hk => ⟨hk.2, hk.1.2⟩))) (fun _ h_ => h_))); (case aB => exact (upB1 HB.out GE492.out)); (case aF => exact (fun k_ hk => Kd.freshB (upK BK492.out) k_ hk)); (case aO => exact (by (with_reducible repeat (first | apply Kd.S_alloc | apply Kd.S_drewN | apply Kd.S_drew)); exact Kd.S_mono HO_4.out (fun k_ hk => ⟨hk.2, fun e_ => hk.1 e_⟩))); (case aS => exact (below_size (upB1 HB.out GE492.out))); (case aL => have := LMc4.out; omega); intro v494 w11 ho hb hg hat; rw [← Ny493.out] at ho; have n0_ := Aside0.mk (blk_grown (upK BK492.out) hg (Kd.S_away HO_4.out (fun _ hk => hk.2))); have n1_ := Aside0.mk (hb); have n2_ := Aside0.mk (ho); clear BK492; clear HB; clear HO_4; clear HO489; have BK492 := n0_; have HB := n1_; have HO495 := n2_; clear n0_ n1_ n2_; clear ho hb hg hat))
          go_roundg k1
          case measure => have := HK1.out; omega
          case rel => exact ⟨(y493), (t490), (by first | rfl | (simp; done) | (simp [*]; done)), H', ⟨by have := HK1.out; omega⟩, ⟨by (with_reducible repeat (first | apply Kd.S_alloc | apply Kd.S_drewN | apply Kd.S_drew)); exact Kd.S_mono HO495.out (fun _ hk => trivial)⟩, ⟨upB1 HB.out GE492.out⟩⟩
        · rw [if_neg c4] at H
          exact absurd H (by simp)
      · rw [if_neg c3] at H
        have c3b0 : (t491 == 0) = false := beq_eq_false_iff_ne.mpr c3
        have c3b1 : (t491 != 0) = true := bne_iff_ne.mpr c3
        simp only [Option.some.injEq, Prod.mk.injEq] at H
        obtain ⟨rfl, rfl⟩ := H
        go_wp2_with (first | ((with_reducible refine gate_callee (f := 12) rfl ?_); refine goesL_ (some 12) rfl rfl Try.func12 (by kernel_rfl) rfl #[.slice A0 l0.length c0, .int .i64 x5_1] rfl argA ?_; (with_reducible refine (plinthref03_Read.calls k1 _ _ l0 x5_1 t485 t486 t487 t490 t491 _ ?side1 ?side2 A2.out).mono ?_); (case side1 => exact upC ((Kd.C_below HR0.out HB.out))); (case side2 => exact HC0.out); rintro e w12 ⟨v488, rfl, ho0, hb⟩; refine ⟨_, rfl, ?_⟩; replace HO_4 := Aside0.mk (Kd.S_elder' (by (with_reducible repeat (first | apply Kd.S_alloc | apply Kd.S_drewN | apply Kd.S_drew)); exact HO_4.out) (Kd.R_base ho0) hb); have HO489 := Aside0.mk (Kd.R_lower ho0 (below_size (upB0 HB.out))); replace HB := Aside0.mk (below_step (upB0 HB.out) hb); (try clear hb); (try clear hb2); (try clear hk); (try clear hi); (try clear ho0)) | ((with_reducible refine gate_dst (N := 6) rfl ?_); refine box_event ?hg (N := 6) ?hd (cs := #[.int .u8 0, .int .u64 0, .slice none 0 0]) (t := 26) ?hr ?_; (case hd => rfl); (case hg => rfl); (case hr => first | (go_simp; done) | (go_simp; rfl)); intro gb492 hg w13 hbox hb; replace HO_4 := Aside0.mk (Kd.S_below (Kd.S_elderB (by (with_reducible repeat (first | apply Kd.S_alloc | apply Kd.S_drewN | apply Kd.S_drew)); exact HO_4.out) gb492 (Nat.le_of_eq hg.symm)) hb); replace HO489 := Aside0.mk (Kd.R_below (upR HO489.out) hb); have BK492 := Aside0.mk (hbox); have GW492 := Aside0.mk ((by rw [hg]; exact (below_size (upB0 HB.out)) : w.heap.size ≤ gb492)); have GE492 := Aside0.mk ((by rw [hg]; exact (below_size (upB0 HB.out)) : w.heap.size ≤ gb492)); replace HB := Aside0.mk (below_step (upB0 HB.out) hb); clear hb hbox hg; obtain ⟨hcz14_0, hcz14_1, hcz14_2, hfz14_0, hfz14_1, hfz14_2⟩ := cells3 BK492.out; obtain ⟨Ao15, co15, eo15⟩ := Kd.R_slice HO489.out; subst eo15))
        go_ret2
        exact ⟨_, by first | rfl | (simp [errW_none, errW_some] <;> rfl) | (simp [*, errW_none, errW_some] <;> rfl), by (with_reducible repeat (first | apply Kd.S_alloc | apply Kd.S_drewN | apply Kd.S_drew)); exact Kd.S_mono (Kd.S_far (p := ⟨gb492, 2, none⟩) (Kd.S_far (p := ⟨gb492, 1, none⟩) (Kd.S_far (p := ⟨gb492, 0, none⟩) (Kd.S_mono HO_4.out (fun k_ hk => (⟨hk, hk.2⟩ : _ ∧ k_ ≠ gb492))) (fun _ hk => hk.2) (.int .u8 t485)) (fun _ hk => hk.2) (.int .u64 t486)) (fun _ hk => hk.2) (.slice Ao15 t487.length co15)) (fun _ hk => trivial), upB1 HB.out GE492.out⟩

end Go.Proofs.Ytcajcbeioilgmaa.F
