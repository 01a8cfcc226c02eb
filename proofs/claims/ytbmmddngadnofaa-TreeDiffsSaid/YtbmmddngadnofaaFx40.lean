-- Written by ext (this session's own program).
-- in short rows (short.py)
import Derived.Test.YtbmmddngadnofaaFx0
import Derived.Test.YtbmmddngadnofaaFx1
import Derived.Test.YtbmmddngadnofaaFx24
import Derived.Test.YtbmmddngadnofaaFx37
import Derived.Test.YtbmmddngadnofaaFx38
import Derived.Test.YtbmmddngadnofaaFx39
namespace Go.Proofs.Ytbmmddngadnofaa.F
open Go.RowKit Go.Proofs.YtbmmddngadnofaaW.PrintWords Go.Proofs.YtbmmddngadnofaaW.PrintLast Go.Proofs.YtbmmddngadnofaaW.PrintMore
attribute [local go_sem] max2_int min2_int max_two min_two max_three min_three max_four min_four   -- for this text's walks alone
set_option linter.unusedVariables false
set_option linter.unusedSimpArgs false

/-! ### plinthlaw25_TreeDiffs: function 7 -/
def plinthlaw25_TreeDiffs.f (k : Nat) (l0_0 : List (List Int)) (l1_0 : List (List Int)) : Option (Bool) := (plinthlaw25_cut.f k l0_0).bind fun t484 => ((plinthlaw25_cut.f k l1_0).bind fun t487 => ((tree_Diff.f k t484 t487).bind fun bt490 => ((plinthref25_Diff.f k t484 t487).bind fun bt495 => ((plinthref25_SamePlaces.f k bt490.1 bt495.1).bind fun t500 => (if t500 = true then (if bt490.2.1 = bt495.2.1 then (if bt490.2.2 = bt495.2.2 then ((plinthlaw25_awake.f k).bind fun t501 => (some t501)) else (some false)) else (some false)) else (some false))))))
theorem plinthlaw25_TreeDiffs.mono : ∀ a0 a1 k, LeO (plinthlaw25_TreeDiffs.f k a0 a1) (plinthlaw25_TreeDiffs.f (k + 1) a0 a1) := by
 intro a0 a1 k
 unfold plinthlaw25_TreeDiffs.f
 repeat' first
   | (with_reducible exact plinthlaw25_awake.mono _)
   | (with_reducible exact plinthlaw25_cut.mono _ _)
   | (with_reducible exact plinthref25_Diff.mono _ _ _)
   | (with_reducible exact plinthref25_SamePlaces.mono _ _ _)
   | (with_reducible exact tree_Diff.mono _ _ _)
   | (with_reducible exact LeO.refl _)
   | (with_reducible exact LeO.none _)
   | (with_reducible refine LeO.ite ?_ ?_)
   | (with_reducible refine LeO.bind ?_ (fun _ => ?_))
   | exact plinthlaw25_awake.mono _
   | exact plinthlaw25_cut.mono _ _
   | exact plinthref25_Diff.mono _ _ _
   | exact plinthref25_SamePlaces.mono _ _ _
   | exact tree_Diff.mono _ _ _
   | exact LeO.none _
   | refine LeO.ite ?_ ?_
   | refine LeO.bind ?_ (fun _ => ?_)
set_option maxHeartbeats 8000000 in
set_option maxRecDepth 100000 in
theorem plinthlaw25_TreeDiffs.calls (k : Nat) (A0_0 : Option Addr) (c0_0 : Nat) (l0_0 : List (List Int)) (A1_0 : Option Addr) (c1_0 : Nat) (l1_0 : List (List Int)) (r : Bool) (w : World) (hr0_0 : Kd.C (Kd.slice 25 (Kd.int .u32)) w A0_0 l0_0.length l0_0) (hc0_0 : l0_0.length ≤ c0_0) (hr1_0 : Kd.C (Kd.slice 25 (Kd.int .u32)) w A1_0 l1_0.length l1_0) (hc1_0 : l1_0.length ≤ c1_0) (hr_ : Aside0 (r = true)) (h : plinthlaw25_TreeDiffs.f k l0_0 l1_0 = some r) :
  Calls Try.prog 7 #[.agg #[.slice A0_0 l0_0.length c0_0], .agg #[.slice A1_0 l1_0.length c1_0]] w fun e w' => e = .returned (.bool r) ∧ Below w.heap.size w w' := by
 have hu24 := Try.underlying24
 have HR0_0 := Aside0.mk hr0_0
 have HC0_0 := Aside0.mk hc0_0
 clear hr0_0 hc0_0
 have HR1_0 := Aside0.mk hr1_0
 have HC1_0 := Aside0.mk hc1_0
 clear hr1_0 hc1_0
 have HB := Aside0.mk (Below.refl w.heap.size w)
 have H : ((plinthlaw25_cut.f k l0_0).bind fun t484 => ((plinthlaw25_cut.f k l1_0).bind fun t487 => ((tree_Diff.f k t484 t487).bind fun bt490 => ((plinthref25_Diff.f k t484 t487).bind fun bt495 => ((plinthref25_SamePlaces.f k bt490.1 bt495.1).bind fun t500 => (if t500 = true then (if bt490.2.1 = bt495.2.1 then (if bt490.2.2 = bt495.2.2 then ((plinthlaw25_awake.f k).bind fun t501 => (some t501)) else (some false)) else (some false)) else (some false))))))) = some r := h
 clear h
 replace H := Option.bind_eq_some_iff.mp H
 obtain ⟨t484, A30, H⟩ := H
 replace H : ((plinthlaw25_cut.f k l1_0).bind fun t487 => ((tree_Diff.f k t484 t487).bind fun bt490 => ((plinthref25_Diff.f k t484 t487).bind fun bt495 => ((plinthref25_SamePlaces.f k bt490.1 bt495.1).bind fun t500 => (if t500 = true then (if bt490.2.1 = bt495.2.1 then (if bt490.2.2 = bt495.2.2 then ((plinthlaw25_awake.f k).bind fun t501 => (some t501)) else (some false)) else (some false)) else (some false)))))) = some r := H
 have A3 := Aside0.mk A30
 clear A30
 replace H := Option.bind_eq_some_iff.mp H
 obtain ⟨t487, A40, H⟩ := H
 replace H : ((tree_Diff.f k t484 t487).bind fun bt490 => ((plinthref25_Diff.f k t484 t487).bind fun bt495 => ((plinthref25_SamePlaces.f k bt490.1 bt495.1).bind fun t500 => (if t500 = true then (if bt490.2.1 = bt495.2.1 then (if bt490.2.2 = bt495.2.2 then ((plinthlaw25_awake.f k).bind fun t501 => (some t501)) else (some false)) else (some false)) else (some false))))) = some r := H
 have A4 := Aside0.mk A40
 clear A40
 replace H := Option.bind_eq_some_iff.mp H
 obtain ⟨⟨t490, t493, t494⟩, A50, H⟩ := H
 replace H : ((plinthref25_Diff.f k t484 t487).bind fun bt495 => ((plinthref25_SamePlaces.f k t490 bt495.1).bind fun t500 => (if t500 = true then (if t493 = bt495.2.1 then (if t494 = bt495.2.2 then ((plinthlaw25_awake.f k).bind fun t501 => (some t501)) else (some false)) else (some false)) else (some false)))) = some r := H
 have A5 := Aside0.mk A50
 clear A50
 replace H := Option.bind_eq_some_iff.mp H
 obtain ⟨⟨t495, t498, t499⟩, A60, H⟩ := H
 replace H : ((plinthref25_SamePlaces.f k t490 t495).bind fun t500 => (if t500 = true then (if t493 = t498 then (if t494 = t499 then ((plinthlaw25_awake.f k).bind fun t501 => (some t501)) else (some false)) else (some false)) else (some false))) = some r := H
 have A6 := Aside0.mk A60
 clear A60
 replace H := Option.bind_eq_some_iff.mp H
 obtain ⟨t500, A70, H⟩ := H
 replace H : (if t500 = true then (if t493 = t498 then (if t494 = t499 then ((plinthlaw25_awake.f k).bind fun t501 => (some t501)) else (some false)) else (some false)) else (some false)) = some r := H
 have A7 := Aside0.mk A70
 clear A70
 by_cases c8 : t500 = true
 ·subst c8
  have H1 : (if t493 = t498 then (if t494 = t499 then ((plinthlaw25_awake.f k).bind fun t501 => (some t501)) else (some false)) else (some false)) = some r := by rw [if_pos rfl] at H; exact H
  clear H
  have H := H1
  clear H1
  by_cases c9 : t493 = t498
  ·rw [if_pos c9] at H
   have c9b0 : (t493 == t498) = true := beq_iff_eq.mpr c9
   have c9b1 : (t493 != t498) = false := bne_eq_false_iff_eq.mpr c9
   clear c9
   by_cases c10 : t494 = t499
   ·rw [if_pos c10] at H
    have c10b0 : (t494 == t499) = true := beq_iff_eq.mpr c10
    have c10b1 : (t494 != t499) = false := bne_eq_false_iff_eq.mpr c10
    clear c10
    replace H := Option.bind_eq_some_iff.mp H
    obtain ⟨t501, A110, H⟩ := H
    replace H : (some t501) = some r := H
    have A11 := Aside0.mk A110
    clear A110
    obtain rfl := Option.some.inj H
    go_enter Try.func7, Try.ntmps7
    try go_wp2_with (first | ((with_reducible refine gate_dst (N := 2) rfl ?_); refine box_event ?hg (N := 2) ?hd (cs := #[.slice A0_0 l0_0.length c0_0]) (t := 24) ?hr ?_; (case hd => rfl); (case hg => rfl); (case hr => first | (go_simp; done) | (go_simp; rfl)); intro gb482 hg w12 hbox hb; have BK482 := Aside0.mk (hbox); have GW482 := Aside0.mk ((by rw [hg]; exact (below_size (upB0 HB.out)) : w.heap.size ≤ gb482)); have GE482 := Aside0.mk ((by rw [hg]; exact (below_size (upB0 HB.out)) : w.heap.size ≤ gb482)); replace HB := Aside0.mk (below_step (upB0 HB.out) hb); clear hb hbox hg) | ((with_reducible refine gate_dst (N := 3) rfl ?_); refine box_event ?hg (N := 3) ?hd (cs := #[.slice A1_0 l1_0.length c1_0]) (t := 24) ?hr ?_; (case hd => rfl); (case hg => rfl); (case hr => first | (go_simp; done) | (go_simp; rfl)); intro gb483 hg w13 hbox hb; have BK483 := Aside0.mk (hbox); have GW483 := Aside0.mk ((by rw [hg]; exact (below_size (upB1 HB.out GE482.out)) : w.heap.size ≤ gb483)); have GE483 := Aside0.mk ((by rw [hg]; exact (below_size (upB1 HB.out GE482.out)) : w.heap.size ≤ gb483)); replace HB := Aside0.mk (below_step (upB1 HB.out GE482.out) hb); have NB482_483 := Aside0.mk ((by rw [hg]; exact Nat.ne_of_lt (blk_lt (upK BK482.out)) : gb482 ≠ gb483)); have NB483_482 := Aside0.mk ((by rw [hg]; exact Nat.ne_of_gt (blk_lt (upK BK482.out)) : gb483 ≠ gb482)); replace BK482 := Aside0.mk (blk_below (upK BK482.out) hb); clear hb hbox hg))
    replace BK482 := Aside0.mk (blk_drew BK482.out)
    replace BK483 := Aside0.mk (blk_drew BK483.out)
    replace HB := Aside0.mk (below_drew1 HB.out)
    refine start_ (n := 6) (S := fun w' => w'.cell? ⟨gb482, 0, none⟩ = some (.slice A0_0 l0_0.length c0_0) ∧ w'.cell? ⟨gb483, 0, none⟩ = some (.slice A1_0 l1_0.length c1_0)) (ds := [4, 5]) (Array.replicate 6 false) (by kernel_rfl) rfl rfl ⟨(blk_cell BK482.out 0).trans rfl, (blk_cell BK483.out 0).trans rfl⟩ (fun hHeld => ?_)
    generalize w13.drew = w14 at BK482 BK483 HB hHeld ⊢
    refine take_ (i := 0) (N := some 11) (v := ?_) (a' := ?_) #[true, false, false, false, false, false] rfl rfl (by kernel_rfl) (fun _ _ _ h => h) (Or.inl ⟨by rfl, ?_⟩) hHeld ?_ ?_
    rotate_left
    ·rintro w' ⟨s0, s1⟩
     go_simp
     with_reducible rfl
    rotate_left
    ·simp only [Act.put, List.setIfInBounds_toArray, List.set_cons_zero, List.set_cons_succ, i64_w, i32_w]
     rfl
    refine take_ (i := 2) (N := some 13) (v := ?_) (a' := ?_) #[true, false, true, false, false, false] rfl rfl (by kernel_rfl) (fun _ _ _ h => h) (Or.inl ⟨by rfl, ?_⟩) hHeld ?_ ?_
    rotate_left
    ·rintro w' ⟨s0, s1⟩
     go_simp
     with_reducible rfl
    rotate_left
    ·simp only [Act.put, List.setIfInBounds_toArray, List.set_cons_zero, List.set_cons_succ, i64_w, i32_w]
     rfl
    refine one_ (i := 1) (N := some 12) #[true, true, true, false, false, false] rfl rfl (by kernel_rfl) (by decide) (fun K hK => ?_)
    refine gM Try.func12 #[.agg #[.slice A0_0 l0_0.length c0_0]] ?_
    with_reducible refine (plinthlaw25_cut.calls k (fun k_ => k_ < w.heap.size) _ _ l0_0 t484 _ ?side1 A3.out).mono ?_
    (case side1 => exact Kd.V_mk HC0_0.out (Kd.F_below (Kd.C_F (Kd.heap_slice 25 (Kd.heap_int .u32)) HR0_0.out) (upB2 HB.out GE482.out GE483.out)))
    rintro e w15 ⟨v485, rfl, ho0, hb⟩
    refine ⟨_, rfl, ?_⟩
    have HO486 := Aside0.mk (Kd.V_lower (Kd.V_mono (ok' := fun k_ => k_ ≠ gb482 ∧ k_ ≠ gb483) ho0 (fun k_ hk_ => ⟨Or.elim hk_ (fun hs_ => fun e_ => Nat.not_le.2 hs_ (by rw [e_]; exact GW482.out)) (fun hn_ => (Kd.freshB (upK BK482.out) k_ hn_)), Or.elim hk_ (fun hs_ => fun e_ => Nat.not_le.2 hs_ (by rw [e_]; exact GW483.out)) (fun hn_ => (Kd.freshB (upK BK483.out) k_ hn_))⟩)) (below_size (upB2 HB.out GE482.out GE483.out)))
    replace BK482 := Aside0.mk (blk_below (upK BK482.out) hb)
    replace BK483 := Aside0.mk (blk_below (upK BK483.out) hb)
    replace HB := Aside0.mk (below_step (upB2 HB.out GE482.out GE483.out) hb)
    (try clear hb); (try clear hb2); (try clear hk); (try clear hi); (try clear ho0)
    refine hK.out _ _ ⟨(blk_cell BK482.out 0).trans rfl, (blk_cell BK483.out 0).trans rfl⟩ (fun hHeld => ?_)
    clear hK K
    refine nM 12 ?_
    refine one_ (i := 3) (N := some 14) #[true, true, true, true, false, false] rfl rfl (by kernel_rfl) (by decide) (fun K hK => ?_)
    refine gM Try.func12 #[.agg #[.slice A1_0 l1_0.length c1_0]] ?_
    with_reducible refine (plinthlaw25_cut.calls k (fun k_ => k_ < w.heap.size) _ _ l1_0 t487 _ ?side1 A4.out).mono ?_
    (case side1 => exact Kd.V_mk HC1_0.out (Kd.F_below (Kd.C_F (Kd.heap_slice 25 (Kd.heap_int .u32)) HR1_0.out) (upB2 HB.out GE482.out GE483.out)))
    rintro e w16 ⟨v488, rfl, ho0, hb⟩
    refine ⟨_, rfl, ?_⟩
    replace HO486 := Aside0.mk (Kd.V_below (upV HO486.out) hb)
    have HO489 := Aside0.mk (Kd.V_lower (Kd.V_mono (ok' := fun k_ => k_ ≠ gb482 ∧ k_ ≠ gb483) ho0 (fun k_ hk_ => ⟨Or.elim hk_ (fun hs_ => fun e_ => Nat.not_le.2 hs_ (by rw [e_]; exact GW482.out)) (fun hn_ => (Kd.freshB (upK BK482.out) k_ hn_)), Or.elim hk_ (fun hs_ => fun e_ => Nat.not_le.2 hs_ (by rw [e_]; exact GW483.out)) (fun hn_ => (Kd.freshB (upK BK483.out) k_ hn_))⟩)) (below_size (upB2 HB.out GE482.out GE483.out)))
    replace BK482 := Aside0.mk (blk_below (upK BK482.out) hb)
    replace BK483 := Aside0.mk (blk_below (upK BK483.out) hb)
    replace HB := Aside0.mk (below_step (upB2 HB.out GE482.out GE483.out) hb)
    (try clear hb); (try clear hb2); (try clear hk); (try clear hi); (try clear ho0)
    obtain ⟨Ao17, co17, eo17⟩ := Kd.V_slice HO486.out
    (first | subst eo17 | (injection eo17 with f1_ f2_ f3_; have f4_ := f1_.symm; have f5_ := f3_.symm; clear f1_ f2_ f3_; subst f4_; subst f5_))
    obtain ⟨Ao19, co19, eo19⟩ := Kd.V_slice HO489.out
    (first | subst eo19 | (injection eo19 with f1_ f2_ f3_; have f4_ := f1_.symm; have f5_ := f3_.symm; clear f1_ f2_ f3_; subst f4_; subst f5_))
    refine hK.out _ _ ⟨(blk_cell BK482.out 0).trans rfl, (blk_cell BK483.out 0).trans rfl⟩ (fun hHeld => ?_)
    clear hK K
    refine nM 14 ?_
    refine last_ (i := 4) (N := none) #[true, true, true, true, true, false] rfl rfl (by kernel_rfl) (by decide) (fun K hK => ?_)
    have hs18 : w16.cell? ⟨gb482, 0, none⟩ = some (.slice A0_0 l0_0.length c0_0) := (blk_cell BK482.out 0).trans rfl
    have hfs18 := blk_frozen BK482.out 0
    have hns18_1 := NB483_482.out
    have hms18_1 := NB482_483.out
    refine skip_ (w1 := ?_) (by rfl) rfl ?_ ?_
    rotate_left
    ·go_simp
     rfl
    refine hK.out _ _ ?_
    clear hK K
    refine last_ (i := 5) (N := none) #[true, true, true, true, true, true] rfl rfl (by kernel_rfl) (by decide) (fun K hK => ?_)
    have hs20 : w16.cell? ⟨gb483, 0, none⟩ = some (.slice A1_0 l1_0.length c1_0) := (blk_cell BK483.out 0).trans rfl
    have hfs20 := blk_frozen BK483.out 0
    have hns20_0 := NB482_483.out
    have hms20_0 := NB483_482.out
    refine skip_ (w1 := ?_) (by rfl) rfl ?_ ?_
    rotate_left
    ·go_simp
     rfl
    refine hK.out _ _ ?_
    clear hK K
    refine done_ (by kernel_rfl) ?_
    have hnb21 := NB482_483.out
    have hnc21 := NB483_482.out
    obtain ⟨hcz22_0, hfz22_0⟩ := cells1 BK482.out
    obtain ⟨hcz23_0, hfz23_0⟩ := cells1 BK483.out
    try go_wp2_with (first | ((with_reducible refine gate_callee (f := 35) rfl ?_); refine goesL_ (some 18) rfl rfl Try.func35 (by kernel_rfl) rfl #[.agg #[.slice Ao17 t484.length co17], .agg #[.slice Ao19 t487.length co19]] rfl argA ?_; (with_reducible refine (tree_Diff.calls k _ _ t484 _ _ t487 t490 t493 t494 _ ?side1 ?side2 ?side3 ?side4 A5.out).mono ?_); (case side1 => refine (Kd.V_reads' (e := 40) (base := w.heap.size) (ok := fun k_ => (k_ ≠ gb482 ∧ k_ ≠ gb483)) (n := t484.length) (c := co17) ?_).2.2; exact (by refine upV ?_; exact (Kd.V_mono (farV1 (g := gb483) (Kd.V_far (p := ⟨gb482, 0, none⟩) (Kd.V_mono (Kd.V_mono HO486.out (fun k_ hk => (⟨hk, hk.1⟩ : _ ∧ k_ ≠ gb482))) (fun k_ hk => (⟨hk, hk.1.2⟩ : _ ∧ k_ ≠ gb483))) (fun _ hk => hk.1.2) (.slice Ao17 t484.length co17)) 0 (.slice Ao19 t487.length co19)) (fun _ h_ => h_.1)))); (case side2 => exact (Kd.V_reads' HO486.out).2.1); (case side3 => refine (Kd.V_reads' (e := 40) (base := w.heap.size) (ok := fun k_ => (k_ ≠ gb482 ∧ k_ ≠ gb483)) (n := t487.length) (c := co19) ?_).2.2; exact (by refine upV ?_; exact (Kd.V_mono (farV1 (g := gb483) (Kd.V_far (p := ⟨gb482, 0, none⟩) (Kd.V_mono (Kd.V_mono HO489.out (fun k_ hk => (⟨hk, hk.1⟩ : _ ∧ k_ ≠ gb482))) (fun k_ hk => (⟨hk, hk.1.2⟩ : _ ∧ k_ ≠ gb483))) (fun _ hk => hk.1.2) (.slice Ao17 t484.length co17)) 0 (.slice Ao19 t487.length co19)) (fun _ h_ => h_.1)))); (case side4 => exact (Kd.V_reads' HO489.out).2.1); rintro e w24 ⟨v491, rfl, ho0, hb⟩; refine ⟨_, rfl, ?_⟩; replace HO486 := Aside0.mk (Kd.V_elder' (by refine upV ?_; exact (Kd.V_mono (farV1 (g := gb483) (Kd.V_far (p := ⟨gb482, 0, none⟩) (Kd.V_mono (Kd.V_mono HO486.out (fun k_ hk => (⟨hk, hk.1⟩ : _ ∧ k_ ≠ gb482))) (fun k_ hk => (⟨hk, hk.1.2⟩ : _ ∧ k_ ≠ gb483))) (fun _ hk => hk.1.2) (.slice Ao17 t484.length co17)) 0 (.slice Ao19 t487.length co19)) (fun _ h_ => h_.1))) (Kd.R_base ho0) hb); replace HO489 := Aside0.mk (Kd.V_elder' (by refine upV ?_; exact (Kd.V_mono (farV1 (g := gb483) (Kd.V_far (p := ⟨gb482, 0, none⟩) (Kd.V_mono (Kd.V_mono HO489.out (fun k_ hk => (⟨hk, hk.1⟩ : _ ∧ k_ ≠ gb482))) (fun k_ hk => (⟨hk, hk.1.2⟩ : _ ∧ k_ ≠ gb483))) (fun _ hk => hk.1.2) (.slice Ao17 t484.length co17)) 0 (.slice Ao19 t487.length co19)) (fun _ h_ => h_.1))) (Kd.R_base ho0) hb); have HO492 := Aside0.mk (Kd.R_lower ho0 (below_size (upB2 HB.out GE482.out GE483.out))); replace BK482 := Aside0.mk (blk_below (g := gb482) (o := .cells #[.slice Ao17 t484.length co17] 24 (0, 0)) (by refine upK ?_; refine blk_far ?_ NB482_483.out _; refine upK ?_; refine blk_put (cs := #[.slice A0_0 l0_0.length c0_0]) ?_ 0 _ rfl; refine upK ?_; exact BK482.out) hb); replace BK483 := Aside0.mk (blk_below (g := gb483) (o := .cells #[.slice Ao19 t487.length co19] 24 (0, 0)) (by refine upK ?_; refine blk_put (cs := #[.slice A1_0 l1_0.length c1_0]) ?_ 0 _ rfl; refine upK ?_; refine blk_far ?_ NB483_482.out _; refine upK ?_; exact BK483.out) hb); replace HB := Aside0.mk (below_step (upB2 HB.out GE482.out GE483.out) hb); (try clear hb); (try clear hb2); (try clear hk); (try clear hi); (try clear ho0); obtain ⟨hcz25_0, hfz25_0⟩ := cells1 BK482.out; obtain ⟨hcz26_0, hfz26_0⟩ := cells1 BK483.out) | ((with_reducible refine gate_callee (f := 36) rfl ?_); refine goesL_ (some 25) rfl rfl Try.func36 (by kernel_rfl) rfl #[.agg #[.slice Ao17 t484.length co17], .agg #[.slice Ao19 t487.length co19]] rfl argA ?_; (with_reducible refine (plinthref25_Diff.calls k _ _ t484 _ _ t487 t495 t498 t499 _ ?side1 ?side2 ?side3 ?side4 A6.out).mono ?_); (case side1 => exact upC ((Kd.V_reads' HO486.out).2.2)); (case side2 => exact (Kd.V_reads' HO486.out).2.1); (case side3 => exact upC ((Kd.V_reads' HO489.out).2.2)); (case side4 => exact (Kd.V_reads' HO489.out).2.1); rintro e w27 ⟨v496, rfl, ho0, hb⟩; refine ⟨_, rfl, ?_⟩; replace HO486 := Aside0.mk (Kd.V_elder' (upV HO486.out) (Kd.R_base ho0) hb); replace HO489 := Aside0.mk (Kd.V_elder' (upV HO489.out) (Kd.R_base ho0) hb); have HO497 := Aside0.mk (Kd.R_lower (Kd.R_new' ho0 (Kd.R_lt (upR HO492.out))) (below_size (upB2 HB.out GE482.out GE483.out))); replace HO492 := Aside0.mk (Kd.R_elder' (upR HO492.out) (Kd.R_base ho0) hb); replace BK482 := Aside0.mk (blk_below (upK BK482.out) hb); replace BK483 := Aside0.mk (blk_below (upK BK483.out) hb); replace HB := Aside0.mk (below_step (upB2 HB.out GE482.out GE483.out) hb); (try clear hb); (try clear hb2); (try clear hk); (try clear hi); (try clear ho0); obtain ⟨Ao28, co28, eo28⟩ := Kd.R_slice HO492.out; subst eo28; obtain ⟨Ao29, co29, eo29⟩ := Kd.R_slice HO497.out; subst eo29) | ((with_reducible refine gate_callee (f := 37) rfl ?_); refine goesL_ (some 31) rfl rfl Try.func37 (by kernel_rfl) rfl #[.slice Ao28 t490.length co28, .slice Ao29 t495.length co29] rfl argA ?_; (with_reducible refine (plinthref25_SamePlaces.calls k _ _ t490 _ _ t495 true _ ?side1 ?side2 ?side3 ?side4 A7.out).mono ?_); (case side1 => exact upC ((Kd.R_reads' HO492.out).2.2)); (case side2 => exact (Kd.R_reads' HO492.out).2.1); (case side3 => exact upC ((Kd.R_reads' HO497.out).2.2)); (case side4 => exact (Kd.R_reads' HO497.out).2.1); rintro e w' ⟨rfl, ⟨nd, rfl⟩⟩; refine ⟨_, rfl, ?_⟩) | (go_at_call 19; (with_reducible refine (plinthlaw25_awake.calls k  t501 _ A11.out).mono ?_); rintro e w30 ⟨rfl, hb⟩; replace HO486 := Aside0.mk (Kd.V_below (upV HO486.out) hb); replace HO489 := Aside0.mk (Kd.V_below (upV HO489.out) hb); replace HO492 := Aside0.mk (Kd.R_below (upR HO492.out) hb); replace HO497 := Aside0.mk (Kd.R_below (upR HO497.out) hb); replace BK482 := Aside0.mk (blk_below (upK BK482.out) hb); replace BK483 := Aside0.mk (blk_below (upK BK483.out) hb); replace HB := Aside0.mk (below_step (upB2 HB.out GE482.out GE483.out) hb); (try clear hb); (try clear hb2); (try clear hk); (try clear hi)))
    go_ret
    exact ⟨by first | rfl | (simp [errW_none, errW_some] <;> rfl) | (simp [*, errW_none, errW_some] <;> rfl), upB2 HB.out GE482.out GE483.out⟩
   ·rw [if_neg c10] at H
    exact absurd (H.trans (congrArg some hr_.out)) (by simp)
  ·rw [if_neg c9] at H
   exact absurd (H.trans (congrArg some hr_.out)) (by simp)
 ·replace c8 := Bool.eq_false_iff.mpr c8
  subst c8
  have H1 : (some false) = some r := by rw [if_neg (show ¬ (false = true) by decide)] at H; exact H
  clear H
  have H := H1
  clear H1
  obtain rfl := Option.some.inj H
  go_enter Try.func7, Try.ntmps7
  try go_wp2_with (first | ((with_reducible refine gate_dst (N := 2) rfl ?_); refine box_event ?hg (N := 2) ?hd (cs := #[.slice A0_0 l0_0.length c0_0]) (t := 24) ?hr ?_; (case hd => rfl); (case hg => rfl); (case hr => first | (go_simp; done) | (go_simp; rfl)); intro gb482 hg w67 hbox hb; have BK482 := Aside0.mk (hbox); have GW482 := Aside0.mk ((by rw [hg]; exact (below_size (upB0 HB.out)) : w.heap.size ≤ gb482)); have GE482 := Aside0.mk ((by rw [hg]; exact (below_size (upB0 HB.out)) : w.heap.size ≤ gb482)); replace HB := Aside0.mk (below_step (upB0 HB.out) hb); clear hb hbox hg) | ((with_reducible refine gate_dst (N := 3) rfl ?_); refine box_event ?hg (N := 3) ?hd (cs := #[.slice A1_0 l1_0.length c1_0]) (t := 24) ?hr ?_; (case hd => rfl); (case hg => rfl); (case hr => first | (go_simp; done) | (go_simp; rfl)); intro gb483 hg w68 hbox hb; have BK483 := Aside0.mk (hbox); have GW483 := Aside0.mk ((by rw [hg]; exact (below_size (upB1 HB.out GE482.out)) : w.heap.size ≤ gb483)); have GE483 := Aside0.mk ((by rw [hg]; exact (below_size (upB1 HB.out GE482.out)) : w.heap.size ≤ gb483)); replace HB := Aside0.mk (below_step (upB1 HB.out GE482.out) hb); have NB482_483 := Aside0.mk ((by rw [hg]; exact Nat.ne_of_lt (blk_lt (upK BK482.out)) : gb482 ≠ gb483)); have NB483_482 := Aside0.mk ((by rw [hg]; exact Nat.ne_of_gt (blk_lt (upK BK482.out)) : gb483 ≠ gb482)); replace BK482 := Aside0.mk (blk_below (upK BK482.out) hb); clear hb hbox hg))
  replace BK482 := Aside0.mk (blk_drew BK482.out)
  replace BK483 := Aside0.mk (blk_drew BK483.out)
  replace HB := Aside0.mk (below_drew1 HB.out)
  refine start_ (n := 6) (S := fun w' => w'.cell? ⟨gb482, 0, none⟩ = some (.slice A0_0 l0_0.length c0_0) ∧ w'.cell? ⟨gb483, 0, none⟩ = some (.slice A1_0 l1_0.length c1_0)) (ds := [4, 5]) (Array.replicate 6 false) (by kernel_rfl) rfl rfl ⟨(blk_cell BK482.out 0).trans rfl, (blk_cell BK483.out 0).trans rfl⟩ (fun hHeld => ?_)
  generalize w68.drew = w69 at BK482 BK483 HB hHeld ⊢
  refine take_ (i := 0) (N := some 11) (v := ?_) (a' := ?_) #[true, false, false, false, false, false] rfl rfl (by kernel_rfl) (fun _ _ _ h => h) (Or.inl ⟨by rfl, ?_⟩) hHeld ?_ ?_
  rotate_left
  ·rintro w' ⟨s0, s1⟩
   go_simp
   with_reducible rfl
  rotate_left
  ·simp only [Act.put, List.setIfInBounds_toArray, List.set_cons_zero, List.set_cons_succ, i64_w, i32_w]
   rfl
  refine take_ (i := 2) (N := some 13) (v := ?_) (a' := ?_) #[true, false, true, false, false, false] rfl rfl (by kernel_rfl) (fun _ _ _ h => h) (Or.inl ⟨by rfl, ?_⟩) hHeld ?_ ?_
  rotate_left
  ·rintro w' ⟨s0, s1⟩
   go_simp
   with_reducible rfl
  rotate_left
  ·simp only [Act.put, List.setIfInBounds_toArray, List.set_cons_zero, List.set_cons_succ, i64_w, i32_w]
   rfl
  refine one_ (i := 1) (N := some 12) #[true, true, true, false, false, false] rfl rfl (by kernel_rfl) (by decide) (fun K hK => ?_)
  refine gM Try.func12 #[.agg #[.slice A0_0 l0_0.length c0_0]] ?_
  with_reducible refine (plinthlaw25_cut.calls k (fun k_ => k_ < w.heap.size) _ _ l0_0 t484 _ ?side1 A3.out).mono ?_
  (case side1 => exact Kd.V_mk HC0_0.out (Kd.F_below (Kd.C_F (Kd.heap_slice 25 (Kd.heap_int .u32)) HR0_0.out) (upB2 HB.out GE482.out GE483.out)))
  rintro e w70 ⟨v485, rfl, ho0, hb⟩
  refine ⟨_, rfl, ?_⟩
  have HO486 := Aside0.mk (Kd.V_lower (Kd.V_mono (ok' := fun k_ => k_ ≠ gb482 ∧ k_ ≠ gb483) ho0 (fun k_ hk_ => ⟨Or.elim hk_ (fun hs_ => fun e_ => Nat.not_le.2 hs_ (by rw [e_]; exact GW482.out)) (fun hn_ => (Kd.freshB (upK BK482.out) k_ hn_)), Or.elim hk_ (fun hs_ => fun e_ => Nat.not_le.2 hs_ (by rw [e_]; exact GW483.out)) (fun hn_ => (Kd.freshB (upK BK483.out) k_ hn_))⟩)) (below_size (upB2 HB.out GE482.out GE483.out)))
  replace BK482 := Aside0.mk (blk_below (upK BK482.out) hb)
  replace BK483 := Aside0.mk (blk_below (upK BK483.out) hb)
  replace HB := Aside0.mk (below_step (upB2 HB.out GE482.out GE483.out) hb)
  (try clear hb); (try clear hb2); (try clear hk); (try clear hi); (try clear ho0)
  refine hK.out _ _ ⟨(blk_cell BK482.out 0).trans rfl, (blk_cell BK483.out 0).trans rfl⟩ (fun hHeld => ?_)
  clear hK K
  refine nM 12 ?_
  refine one_ (i := 3) (N := some 14) #[true, true, true, true, false, false] rfl rfl (by kernel_rfl) (by decide) (fun K hK => ?_)
  refine gM Try.func12 #[.agg #[.slice A1_0 l1_0.length c1_0]] ?_
  with_reducible refine (plinthlaw25_cut.calls k (fun k_ => k_ < w.heap.size) _ _ l1_0 t487 _ ?side1 A4.out).mono ?_
  (case side1 => exact Kd.V_mk HC1_0.out (Kd.F_below (Kd.C_F (Kd.heap_slice 25 (Kd.heap_int .u32)) HR1_0.out) (upB2 HB.out GE482.out GE483.out)))
  rintro e w71 ⟨v488, rfl, ho0, hb⟩
  refine ⟨_, rfl, ?_⟩
  replace HO486 := Aside0.mk (Kd.V_below (upV HO486.out) hb)
  have HO489 := Aside0.mk (Kd.V_lower (Kd.V_mono (ok' := fun k_ => k_ ≠ gb482 ∧ k_ ≠ gb483) ho0 (fun k_ hk_ => ⟨Or.elim hk_ (fun hs_ => fun e_ => Nat.not_le.2 hs_ (by rw [e_]; exact GW482.out)) (fun hn_ => (Kd.freshB (upK BK482.out) k_ hn_)), Or.elim hk_ (fun hs_ => fun e_ => Nat.not_le.2 hs_ (by rw [e_]; exact GW483.out)) (fun hn_ => (Kd.freshB (upK BK483.out) k_ hn_))⟩)) (below_size (upB2 HB.out GE482.out GE483.out)))
  replace BK482 := Aside0.mk (blk_below (upK BK482.out) hb)
  replace BK483 := Aside0.mk (blk_below (upK BK483.out) hb)
  replace HB := Aside0.mk (below_step (upB2 HB.out GE482.out GE483.out) hb)
  (try clear hb); (try clear hb2); (try clear hk); (try clear hi); (try clear ho0)
  obtain ⟨Ao72, co72, eo72⟩ := Kd.V_slice HO486.out
  (first | subst eo72 | (injection eo72 with f1_ f2_ f3_; have f4_ := f1_.symm; have f5_ := f3_.symm; clear f1_ f2_ f3_; subst f4_; subst f5_))
  obtain ⟨Ao74, co74, eo74⟩ := Kd.V_slice HO489.out
  (first | subst eo74 | (injection eo74 with f1_ f2_ f3_; have f4_ := f1_.symm; have f5_ := f3_.symm; clear f1_ f2_ f3_; subst f4_; subst f5_))
  refine hK.out _ _ ⟨(blk_cell BK482.out 0).trans rfl, (blk_cell BK483.out 0).trans rfl⟩ (fun hHeld => ?_)
  clear hK K
  refine nM 14 ?_
  refine last_ (i := 4) (N := none) #[true, true, true, true, true, false] rfl rfl (by kernel_rfl) (by decide) (fun K hK => ?_)
  have hs73 : w71.cell? ⟨gb482, 0, none⟩ = some (.slice A0_0 l0_0.length c0_0) := (blk_cell BK482.out 0).trans rfl
  have hfs73 := blk_frozen BK482.out 0
  have hns73_1 := NB483_482.out
  have hms73_1 := NB482_483.out
  refine skip_ (w1 := ?_) (by rfl) rfl ?_ ?_
  rotate_left
  ·go_simp
   rfl
  refine hK.out _ _ ?_
  clear hK K
  refine last_ (i := 5) (N := none) #[true, true, true, true, true, true] rfl rfl (by kernel_rfl) (by decide) (fun K hK => ?_)
  have hs75 : w71.cell? ⟨gb483, 0, none⟩ = some (.slice A1_0 l1_0.length c1_0) := (blk_cell BK483.out 0).trans rfl
  have hfs75 := blk_frozen BK483.out 0
  have hns75_0 := NB482_483.out
  have hms75_0 := NB483_482.out
  refine skip_ (w1 := ?_) (by rfl) rfl ?_ ?_
  rotate_left
  ·go_simp
   rfl
  refine hK.out _ _ ?_
  clear hK K
  refine done_ (by kernel_rfl) ?_
  have hnb76 := NB482_483.out
  have hnc76 := NB483_482.out
  obtain ⟨hcz77_0, hfz77_0⟩ := cells1 BK482.out
  obtain ⟨hcz78_0, hfz78_0⟩ := cells1 BK483.out
  try go_wp2_with (first | ((with_reducible refine gate_callee (f := 35) rfl ?_); refine goesL_ (some 18) rfl rfl Try.func35 (by kernel_rfl) rfl #[.agg #[.slice Ao72 t484.length co72], .agg #[.slice Ao74 t487.length co74]] rfl argA ?_; (with_reducible refine (tree_Diff.calls k _ _ t484 _ _ t487 t490 t493 t494 _ ?side1 ?side2 ?side3 ?side4 A5.out).mono ?_); (case side1 => refine (Kd.V_reads' (e := 40) (base := w.heap.size) (ok := fun k_ => (k_ ≠ gb482 ∧ k_ ≠ gb483)) (n := t484.length) (c := co72) ?_).2.2; exact (by refine upV ?_; exact (Kd.V_mono (farV1 (g := gb483) (Kd.V_far (p := ⟨gb482, 0, none⟩) (Kd.V_mono (Kd.V_mono HO486.out (fun k_ hk => (⟨hk, hk.1⟩ : _ ∧ k_ ≠ gb482))) (fun k_ hk => (⟨hk, hk.1.2⟩ : _ ∧ k_ ≠ gb483))) (fun _ hk => hk.1.2) (.slice Ao72 t484.length co72)) 0 (.slice Ao74 t487.length co74)) (fun _ h_ => h_.1)))); (case side2 => exact (Kd.V_reads' HO486.out).2.1); (case side3 => refine (Kd.V_reads' (e := 40) (base := w.heap.size) (ok := fun k_ => (k_ ≠ gb482 ∧ k_ ≠ gb483)) (n := t487.length) (c := co74) ?_).2.2; exact (by refine upV ?_; exact (Kd.V_mono (farV1 (g := gb483) (Kd.V_far (p := ⟨gb482, 0, none⟩) (Kd.V_mono (Kd.V_mono HO489.out (fun k_ hk => (⟨hk, hk.1⟩ : _ ∧ k_ ≠ gb482))) (fun k_ hk => (⟨hk, hk.1.2⟩ : _ ∧ k_ ≠ gb483))) (fun _ hk => hk.1.2) (.slice Ao72 t484.length co72)) 0 (.slice Ao74 t487.length co74)) (fun _ h_ => h_.1)))); (case side4 => exact (Kd.V_reads' HO489.out).2.1); rintro e w79 ⟨v491, rfl, ho0, hb⟩; refine ⟨_, rfl, ?_⟩; replace HO486 := Aside0.mk (Kd.V_elder' (by refine upV ?_; exact (Kd.V_mono (farV1 (g := gb483) (Kd.V_far (p := ⟨gb482, 0, none⟩) (Kd.V_mono (Kd.V_mono HO486.out (fun k_ hk => (⟨hk, hk.1⟩ : _ ∧ k_ ≠ gb482))) (fun k_ hk => (⟨hk, hk.1.2⟩ : _ ∧ k_ ≠ gb483))) (fun _ hk => hk.1.2) (.slice Ao72 t484.length co72)) 0 (.slice Ao74 t487.length co74)) (fun _ h_ => h_.1))) (Kd.R_base ho0) hb); replace HO489 := Aside0.mk (Kd.V_elder' (by refine upV ?_; exact (Kd.V_mono (farV1 (g := gb483) (Kd.V_far (p := ⟨gb482, 0, none⟩) (Kd.V_mono (Kd.V_mono HO489.out (fun k_ hk => (⟨hk, hk.1⟩ : _ ∧ k_ ≠ gb482))) (fun k_ hk => (⟨hk, hk.1.2⟩ : _ ∧ k_ ≠ gb483))) (fun _ hk => hk.1.2) (.slice Ao72 t484.length co72)) 0 (.slice Ao74 t487.length co74)) (fun _ h_ => h_.1))) (Kd.R_base ho0) hb); have HO492 := Aside0.mk (Kd.R_lower ho0 (below_size (upB2 HB.out GE482.out GE483.out))); replace BK482 := Aside0.mk (blk_below (g := gb482) (o := .cells #[.slice Ao72 t484.length co72] 24 (0, 0)) (by refine upK ?_; refine blk_far ?_ NB482_483.out _; refine upK ?_; refine blk_put (cs := #[.slice A0_0 l0_0.length c0_0]) ?_ 0 _ rfl; refine upK ?_; exact BK482.out) hb); replace BK483 := Aside0.mk (blk_below (g := gb483) (o := .cells #[.slice Ao74 t487.length co74] 24 (0, 0)) (by refine upK ?_; refine blk_put (cs := #[.slice A1_0 l1_0.length c1_0]) ?_ 0 _ rfl; refine upK ?_; refine blk_far ?_ NB483_482.out _; refine upK ?_; exact BK483.out) hb); replace HB := Aside0.mk (below_step (upB2 HB.out GE482.out GE483.out) hb); (try clear hb); (try clear hb2); (try clear hk); (try clear hi); (try clear ho0); obtain ⟨hcz80_0, hfz80_0⟩ := cells1 BK482.out; obtain ⟨hcz81_0, hfz81_0⟩ := cells1 BK483.out) | ((with_reducible refine gate_callee (f := 36) rfl ?_); refine goesL_ (some 25) rfl rfl Try.func36 (by kernel_rfl) rfl #[.agg #[.slice Ao72 t484.length co72], .agg #[.slice Ao74 t487.length co74]] rfl argA ?_; (with_reducible refine (plinthref25_Diff.calls k _ _ t484 _ _ t487 t495 t498 t499 _ ?side1 ?side2 ?side3 ?side4 A6.out).mono ?_); (case side1 => exact upC ((Kd.V_reads' HO486.out).2.2)); (case side2 => exact (Kd.V_reads' HO486.out).2.1); (case side3 => exact upC ((Kd.V_reads' HO489.out).2.2)); (case side4 => exact (Kd.V_reads' HO489.out).2.1); rintro e w82 ⟨v496, rfl, ho0, hb⟩; refine ⟨_, rfl, ?_⟩; replace HO486 := Aside0.mk (Kd.V_elder' (upV HO486.out) (Kd.R_base ho0) hb); replace HO489 := Aside0.mk (Kd.V_elder' (upV HO489.out) (Kd.R_base ho0) hb); have HO497 := Aside0.mk (Kd.R_lower (Kd.R_new' ho0 (Kd.R_lt (upR HO492.out))) (below_size (upB2 HB.out GE482.out GE483.out))); replace HO492 := Aside0.mk (Kd.R_elder' (upR HO492.out) (Kd.R_base ho0) hb); replace BK482 := Aside0.mk (blk_below (upK BK482.out) hb); replace BK483 := Aside0.mk (blk_below (upK BK483.out) hb); replace HB := Aside0.mk (below_step (upB2 HB.out GE482.out GE483.out) hb); (try clear hb); (try clear hb2); (try clear hk); (try clear hi); (try clear ho0); obtain ⟨Ao83, co83, eo83⟩ := Kd.R_slice HO492.out; subst eo83; obtain ⟨Ao84, co84, eo84⟩ := Kd.R_slice HO497.out; subst eo84) | ((with_reducible refine gate_callee (f := 37) rfl ?_); refine goesL_ (some 31) rfl rfl Try.func37 (by kernel_rfl) rfl #[.slice Ao83 t490.length co83, .slice Ao84 t495.length co84] rfl argA ?_; (with_reducible refine (plinthref25_SamePlaces.calls k _ _ t490 _ _ t495 false _ ?side1 ?side2 ?side3 ?side4 A7.out).mono ?_); (case side1 => exact upC ((Kd.R_reads' HO492.out).2.2)); (case side2 => exact (Kd.R_reads' HO492.out).2.1); (case side3 => exact upC ((Kd.R_reads' HO497.out).2.2)); (case side4 => exact (Kd.R_reads' HO497.out).2.1); rintro e w' ⟨rfl, ⟨nd, rfl⟩⟩; refine ⟨_, rfl, ?_⟩))
  go_ret
  exact ⟨by first | rfl | (simp [errW_none, errW_some] <;> rfl) | (simp [*, errW_none, errW_some] <;> rfl), upB2 HB.out GE482.out GE483.out⟩

end Go.Proofs.Ytbmmddngadnofaa.F
