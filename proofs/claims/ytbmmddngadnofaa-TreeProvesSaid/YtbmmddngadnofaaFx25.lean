-- Written by ext (this session's own program).
-- in short rows (short.py)
import Derived.Test.YtbmmddngadnofaaFx0
import Derived.Test.YtbmmddngadnofaaFx1
import Derived.Test.YtbmmddngadnofaaFx2
import Derived.Test.YtbmmddngadnofaaFx12
import Derived.Test.YtbmmddngadnofaaFx20
import Derived.Test.YtbmmddngadnofaaFx21
import Derived.Test.YtbmmddngadnofaaFx22
import Derived.Test.YtbmmddngadnofaaFx23
import Derived.Test.YtbmmddngadnofaaFx24
namespace Go.Proofs.Ytbmmddngadnofaa.F
open Go.RowKit Go.Proofs.YtbmmddngadnofaaW.PrintWords Go.Proofs.YtbmmddngadnofaaW.PrintLast Go.Proofs.YtbmmddngadnofaaW.PrintMore
attribute [local go_sem] max2_int min2_int max_two min_two max_three min_three max_four min_four   -- for this text's walks alone
set_option linter.unusedVariables false
set_option linter.unusedSimpArgs false

/-! ### plinthlaw25_TreeProves: function 3 -/
def plinthlaw25_TreeProves.f (k : Nat) (l0_0 : List (List Int)) (a1 : Int) (a2 : Int) (a3 : Int) (a4 : Int) (a5_0 : Int) (l5_1 : List (List Int)) : Option (Bool) := (plinthlaw25_cut.f k l0_0).bind fun t269 => ((plinthlaw25_light.f k a5_0 l5_1).bind fun bt272 => ((tree_Prove.f k t269 a1).bind fun bt276 => ((plinthref25_Prove.f k t269 a1).bind fun bt282 => ((plinthref25_SameProof.f k bt276.1 bt276.2.1 bt282.1 bt282.2.1).bind fun t288 => (if t288 = true then (if bt276.2.2 = bt282.2.2 then ((tree_Proved.f k a2 a3 a4 bt272.1 bt272.2).bind fun t289 => ((plinthref25_Proved.f k a2 a3 a4 bt272.1 bt272.2).bind fun t290 => (if t289 = t290 then ((plinthlaw25_awake.f k).bind fun t291 => (some t291)) else (some false)))) else (some false)) else (some false))))))
theorem plinthlaw25_TreeProves.mono : ∀ a0 a1 a2 a3 a4 a5 a6 k, LeO (plinthlaw25_TreeProves.f k a0 a1 a2 a3 a4 a5 a6) (plinthlaw25_TreeProves.f (k + 1) a0 a1 a2 a3 a4 a5 a6) := by
 intro a0 a1 a2 a3 a4 a5 a6 k
 unfold plinthlaw25_TreeProves.f
 repeat' first
   | (with_reducible exact plinthlaw25_awake.mono _)
   | (with_reducible exact plinthlaw25_cut.mono _ _)
   | (with_reducible exact plinthlaw25_light.mono _ _ _)
   | (with_reducible exact plinthref25_Prove.mono _ _ _)
   | (with_reducible exact plinthref25_Proved.mono _ _ _ _ _ _)
   | (with_reducible exact plinthref25_SameProof.mono _ _ _ _ _)
   | (with_reducible exact tree_Prove.mono _ _ _)
   | (with_reducible exact tree_Proved.mono _ _ _ _ _ _)
   | (with_reducible exact LeO.refl _)
   | (with_reducible exact LeO.none _)
   | (with_reducible refine LeO.ite ?_ ?_)
   | (with_reducible refine LeO.bind ?_ (fun _ => ?_))
   | exact plinthlaw25_awake.mono _
   | exact plinthlaw25_cut.mono _ _
   | exact plinthlaw25_light.mono _ _ _
   | exact plinthref25_Prove.mono _ _ _
   | exact plinthref25_Proved.mono _ _ _ _ _ _
   | exact plinthref25_SameProof.mono _ _ _ _ _
   | exact tree_Prove.mono _ _ _
   | exact tree_Proved.mono _ _ _ _ _ _
   | exact LeO.none _
   | refine LeO.ite ?_ ?_
   | refine LeO.bind ?_ (fun _ => ?_)
def plinthlaw25_TreeProves.T4 : Bool × List (List Nat × List Nat) := (true, [([], []), ([], []), ([0, 1], [0, 1]), ([2, 2], [2]), ([3], [3]), ([3], [3]), ([4, 5, 3], [3, 4, 5]), ([3, 6], [3, 6]), ([7, 3], [7]), ([8], [8]), ([8], [8]), ([8], [8]), ([8], [8]), ([9, 10, 11, 12, 8, 8], [8, 9, 10, 11, 12]), ([8], [8]), ([8], [8]), ([8], [8]), ([8], [8]), ([14, 15, 16, 17, 13, 8], [8, 14, 15, 16, 17]), ([13, 18, 8], [8, 13, 18]), ([8, 19], [8, 19]), ([20, 18], [20]), ([21, 21], [21]), ([21, 22], [21, 22]), ([23, 22, 0, 1, 2, 3, 4, 5, 6, 7, 8, 9, 10, 11, 12, 13, 14, 15, 16, 17, 18, 19, 20, 21, 22, 23], [23])])
def plinthlaw25_TreeProves.B4 : List Nat := [0, 0, 3, 7, 15, 15, 63, 127, 255, 511, 511, 511, 511, 8191, 511, 511, 511, 511, 262143, 524287, 1048575, 2097151, 4194303, 8388607, 16777215]
theorem plinthlaw25_TreeProves.tab4 : rtab .any (opsOf Try.f3 4) = plinthlaw25_TreeProves.T4 := by kernel_rfl
theorem plinthlaw25_TreeProves.bits4 : waitsOk plinthlaw25_TreeProves.T4.2 plinthlaw25_TreeProves.B4 = true := by kernel_rfl
set_option maxHeartbeats 8000000 in
set_option maxRecDepth 100000 in
theorem plinthlaw25_TreeProves.calls (k : Nat) (A0_0 : Option Addr) (c0_0 : Nat) (l0_0 : List (List Int)) (a1 : Int) (a2 : Int) (a3 : Int) (a4 : Int) (a5_0 : Int) (A5_1 : Option Addr) (c5_1 : Nat) (l5_1 : List (List Int)) (r : Bool) (w : World) (hr0_0 : Kd.C (Kd.slice 25 (Kd.int .u32)) w A0_0 l0_0.length l0_0) (hc0_0 : l0_0.length ≤ c0_0) (hr5_1 : Kd.C (Kd.slice 25 (Kd.int .u32)) w A5_1 l5_1.length l5_1) (hc5_1 : l5_1.length ≤ c5_1) (h : plinthlaw25_TreeProves.f k l0_0 a1 a2 a3 a4 a5_0 l5_1 = some r) :
  Calls Try.prog 3 #[.agg #[.slice A0_0 l0_0.length c0_0], .int .i64 a1, .int .u32 a2, .int .i64 a3, .int .u32 a4, .agg #[.int .i64 a5_0, .slice A5_1 l5_1.length c5_1]] w fun e w' => e = .returned (.bool r) ∧ Below w.heap.size w w' := by
 have hu24 := Try.underlying24
 have hu27 := Try.underlying27
 have HR0_0 := Aside0.mk hr0_0
 have HC0_0 := Aside0.mk hc0_0
 clear hr0_0 hc0_0
 have HR5_1 := Aside0.mk hr5_1
 have HC5_1 := Aside0.mk hc5_1
 clear hr5_1 hc5_1
 have HB := Aside0.mk (Below.refl w.heap.size w)
 have H : ((plinthlaw25_cut.f k l0_0).bind fun t269 => ((plinthlaw25_light.f k a5_0 l5_1).bind fun bt272 => ((tree_Prove.f k t269 a1).bind fun bt276 => ((plinthref25_Prove.f k t269 a1).bind fun bt282 => ((plinthref25_SameProof.f k bt276.1 bt276.2.1 bt282.1 bt282.2.1).bind fun t288 => (if t288 = true then (if bt276.2.2 = bt282.2.2 then ((tree_Proved.f k a2 a3 a4 bt272.1 bt272.2).bind fun t289 => ((plinthref25_Proved.f k a2 a3 a4 bt272.1 bt272.2).bind fun t290 => (if t289 = t290 then ((plinthlaw25_awake.f k).bind fun t291 => (some t291)) else (some false)))) else (some false)) else (some false))))))) = some r := h
 clear h
 replace H := Option.bind_eq_some_iff.mp H
 obtain ⟨t269, A70, H⟩ := H
 replace H : ((plinthlaw25_light.f k a5_0 l5_1).bind fun bt272 => ((tree_Prove.f k t269 a1).bind fun bt276 => ((plinthref25_Prove.f k t269 a1).bind fun bt282 => ((plinthref25_SameProof.f k bt276.1 bt276.2.1 bt282.1 bt282.2.1).bind fun t288 => (if t288 = true then (if bt276.2.2 = bt282.2.2 then ((tree_Proved.f k a2 a3 a4 bt272.1 bt272.2).bind fun t289 => ((plinthref25_Proved.f k a2 a3 a4 bt272.1 bt272.2).bind fun t290 => (if t289 = t290 then ((plinthlaw25_awake.f k).bind fun t291 => (some t291)) else (some false)))) else (some false)) else (some false)))))) = some r := H
 have A7 := Aside0.mk A70
 clear A70
 replace H := Option.bind_eq_some_iff.mp H
 obtain ⟨⟨t272, t273⟩, A80, H⟩ := H
 replace H : ((tree_Prove.f k t269 a1).bind fun bt276 => ((plinthref25_Prove.f k t269 a1).bind fun bt282 => ((plinthref25_SameProof.f k bt276.1 bt276.2.1 bt282.1 bt282.2.1).bind fun t288 => (if t288 = true then (if bt276.2.2 = bt282.2.2 then ((tree_Proved.f k a2 a3 a4 t272 t273).bind fun t289 => ((plinthref25_Proved.f k a2 a3 a4 t272 t273).bind fun t290 => (if t289 = t290 then ((plinthlaw25_awake.f k).bind fun t291 => (some t291)) else (some false)))) else (some false)) else (some false))))) = some r := H
 have A8 := Aside0.mk A80
 clear A80
 replace H := Option.bind_eq_some_iff.mp H
 obtain ⟨⟨t276, t277, t280⟩, A90, H⟩ := H
 replace H : ((plinthref25_Prove.f k t269 a1).bind fun bt282 => ((plinthref25_SameProof.f k t276 t277 bt282.1 bt282.2.1).bind fun t288 => (if t288 = true then (if t280 = bt282.2.2 then ((tree_Proved.f k a2 a3 a4 t272 t273).bind fun t289 => ((plinthref25_Proved.f k a2 a3 a4 t272 t273).bind fun t290 => (if t289 = t290 then ((plinthlaw25_awake.f k).bind fun t291 => (some t291)) else (some false)))) else (some false)) else (some false)))) = some r := H
 have A9 := Aside0.mk A90
 clear A90
 replace H := Option.bind_eq_some_iff.mp H
 obtain ⟨⟨t282, t283, t286⟩, A100, H⟩ := H
 replace H : ((plinthref25_SameProof.f k t276 t277 t282 t283).bind fun t288 => (if t288 = true then (if t280 = t286 then ((tree_Proved.f k a2 a3 a4 t272 t273).bind fun t289 => ((plinthref25_Proved.f k a2 a3 a4 t272 t273).bind fun t290 => (if t289 = t290 then ((plinthlaw25_awake.f k).bind fun t291 => (some t291)) else (some false)))) else (some false)) else (some false))) = some r := H
 have A10 := Aside0.mk A100
 clear A100
 replace H := Option.bind_eq_some_iff.mp H
 obtain ⟨t288, A110, H⟩ := H
 replace H : (if t288 = true then (if t280 = t286 then ((tree_Proved.f k a2 a3 a4 t272 t273).bind fun t289 => ((plinthref25_Proved.f k a2 a3 a4 t272 t273).bind fun t290 => (if t289 = t290 then ((plinthlaw25_awake.f k).bind fun t291 => (some t291)) else (some false)))) else (some false)) else (some false)) = some r := H
 have A11 := Aside0.mk A110
 clear A110
 by_cases c12 : t288 = true
 ·subst c12
  have H1 : (if t280 = t286 then ((tree_Proved.f k a2 a3 a4 t272 t273).bind fun t289 => ((plinthref25_Proved.f k a2 a3 a4 t272 t273).bind fun t290 => (if t289 = t290 then ((plinthlaw25_awake.f k).bind fun t291 => (some t291)) else (some false)))) else (some false)) = some r := by rw [if_pos rfl] at H; exact H
  clear H
  have H := H1
  clear H1
  by_cases c13 : t280 = t286
  ·rw [if_pos c13] at H
   have c13b0 : (t280 == t286) = true := beq_iff_eq.mpr c13
   have c13b1 : (t280 != t286) = false := bne_eq_false_iff_eq.mpr c13
   clear c13
   replace H := Option.bind_eq_some_iff.mp H
   obtain ⟨t289, A140, H⟩ := H
   replace H : ((plinthref25_Proved.f k a2 a3 a4 t272 t273).bind fun t290 => (if t289 = t290 then ((plinthlaw25_awake.f k).bind fun t291 => (some t291)) else (some false))) = some r := H
   have A14 := Aside0.mk A140
   clear A140
   replace H := Option.bind_eq_some_iff.mp H
   obtain ⟨t290, A150, H⟩ := H
   replace H : (if t289 = t290 then ((plinthlaw25_awake.f k).bind fun t291 => (some t291)) else (some false)) = some r := H
   have A15 := Aside0.mk A150
   clear A150
   by_cases c16 : t289 = t290
   ·rw [if_pos c16] at H
    have c16b0 : (t289 == t290) = true := beq_iff_eq.mpr c16
    have c16b1 : (t289 != t290) = false := bne_eq_false_iff_eq.mpr c16
    clear c16
    replace H := Option.bind_eq_some_iff.mp H
    obtain ⟨t291, A170, H⟩ := H
    replace H : (some t291) = some r := H
    have A17 := Aside0.mk A170
    clear A170
    obtain rfl := Option.some.inj H
    go_enter Try.func3, Try.ntmps3
    try go_wp2_with (first | ((with_reducible refine gate_dst (N := 6) rfl ?_); refine box_event ?hg (N := 6) ?hd (cs := #[.slice A0_0 l0_0.length c0_0]) (t := 24) ?hr ?_; (case hd => rfl); (case hg => rfl); (case hr => first | (go_simp; done) | (go_simp; rfl)); intro gb267 hg w18 hbox hb; have BK267 := Aside0.mk (hbox); have GW267 := Aside0.mk ((by rw [hg]; exact (below_size (upB0 HB.out)) : w.heap.size ≤ gb267)); have GE267 := Aside0.mk ((by rw [hg]; exact (below_size (upB0 HB.out)) : w.heap.size ≤ gb267)); replace HB := Aside0.mk (below_step (upB0 HB.out) hb); clear hb hbox hg) | ((with_reducible refine gate_dst (N := 11) rfl ?_); refine box_event ?hg (N := 11) ?hd (cs := #[.int .i64 a5_0, .slice A5_1 l5_1.length c5_1]) (t := 27) ?hr ?_; (case hd => rfl); (case hg => rfl); (case hr => first | (go_simp; done) | (go_simp; rfl)); intro gb268 hg w19 hbox hb; have BK268 := Aside0.mk (hbox); have GW268 := Aside0.mk ((by rw [hg]; exact (below_size (upB1 HB.out GE267.out)) : w.heap.size ≤ gb268)); have GE268 := Aside0.mk ((by rw [hg]; exact (below_size (upB1 HB.out GE267.out)) : w.heap.size ≤ gb268)); replace HB := Aside0.mk (below_step (upB1 HB.out GE267.out) hb); have NB267_268 := Aside0.mk ((by rw [hg]; exact Nat.ne_of_lt (blk_lt (upK BK267.out)) : gb267 ≠ gb268)); have NB268_267 := Aside0.mk ((by rw [hg]; exact Nat.ne_of_gt (blk_lt (upK BK267.out)) : gb268 ≠ gb267)); replace BK267 := Aside0.mk (blk_below (upK BK267.out) hb); clear hb hbox hg))
    replace BK267 := Aside0.mk (blk_drew BK267.out)
    replace BK268 := Aside0.mk (blk_drew BK268.out)
    replace HB := Aside0.mk (below_drew1 HB.out)
    refine start_ (n := 6) (S := fun w' => w'.cell? ⟨gb267, 0, none⟩ = some (.slice A0_0 l0_0.length c0_0) ∧ w'.cell? ⟨gb268, 0, none⟩ = some (.int .i64 a5_0) ∧ w'.cell? ⟨gb268, 1, none⟩ = some (.slice A5_1 l5_1.length c5_1)) (ds := [4, 5]) (Array.replicate 6 false) (by kernel_rfl) rfl rfl ⟨(blk_cell BK267.out 0).trans rfl, (blk_cell BK268.out 0).trans rfl, (blk_cell BK268.out 1).trans rfl⟩ (fun hHeld => ?_)
    generalize w19.drew = w20 at BK267 BK268 HB hHeld ⊢
    refine take_ (i := 0) (N := some 17) (v := ?_) (a' := ?_) #[true, false, false, false, false, false] rfl rfl (by kernel_rfl) (fun _ _ _ h => h) (Or.inl ⟨by rfl, ?_⟩) hHeld ?_ ?_
    rotate_left
    ·rintro w' ⟨s0, s1, s2⟩
     go_simp
     with_reducible rfl
    rotate_left
    ·simp only [Act.put, List.setIfInBounds_toArray, List.set_cons_zero, List.set_cons_succ, i64_w, i32_w]
     rfl
    refine take_ (i := 2) (N := some 19) (v := ?_) (a' := ?_) #[true, false, true, false, false, false] rfl rfl (by kernel_rfl) (fun _ _ _ h => h) (Or.inl ⟨by rfl, ?_⟩) hHeld ?_ ?_
    rotate_left
    ·rintro w' ⟨s0, s1, s2⟩
     go_simp
     with_reducible rfl
    rotate_left
    ·simp only [Act.put, List.setIfInBounds_toArray, List.set_cons_zero, List.set_cons_succ, i64_w, i32_w]
     rfl
    refine one_ (i := 1) (N := some 18) #[true, true, true, false, false, false] rfl rfl (by kernel_rfl) (by decide) (fun K hK => ?_)
    refine gM Try.func12 #[.agg #[.slice A0_0 l0_0.length c0_0]] ?_
    with_reducible refine (plinthlaw25_cut.calls k (fun k_ => k_ < w.heap.size) _ _ l0_0 t269 _ ?side1 A7.out).mono ?_
    (case side1 => exact Kd.V_mk HC0_0.out (Kd.F_below (Kd.C_F (Kd.heap_slice 25 (Kd.heap_int .u32)) HR0_0.out) (upB2 HB.out GE267.out GE268.out)))
    rintro e w21 ⟨v270, rfl, ho0, hb⟩
    refine ⟨_, rfl, ?_⟩
    have HO271 := Aside0.mk (Kd.V_lower (Kd.V_mono (ok' := fun k_ => k_ ≠ gb267 ∧ k_ ≠ gb268) ho0 (fun k_ hk_ => ⟨Or.elim hk_ (fun hs_ => fun e_ => Nat.not_le.2 hs_ (by rw [e_]; exact GW267.out)) (fun hn_ => (Kd.freshB (upK BK267.out) k_ hn_)), Or.elim hk_ (fun hs_ => fun e_ => Nat.not_le.2 hs_ (by rw [e_]; exact GW268.out)) (fun hn_ => (Kd.freshB (upK BK268.out) k_ hn_))⟩)) (below_size (upB2 HB.out GE267.out GE268.out)))
    replace BK267 := Aside0.mk (blk_below (upK BK267.out) hb)
    replace BK268 := Aside0.mk (blk_below (upK BK268.out) hb)
    replace HB := Aside0.mk (below_step (upB2 HB.out GE267.out GE268.out) hb)
    (try clear hb); (try clear hb2); (try clear hk); (try clear hi); (try clear ho0)
    refine hK.out _ _ ⟨(blk_cell BK267.out 0).trans rfl, (blk_cell BK268.out 0).trans rfl, (blk_cell BK268.out 1).trans rfl⟩ (fun hHeld => ?_)
    clear hK K
    refine nM 18 ?_
    refine one_ (i := 3) (N := some 20) #[true, true, true, true, false, false] rfl rfl (by kernel_rfl) (by decide) (fun K hK => ?_)
    refine gM Try.func13 #[.agg #[.int .i64 a5_0, .slice A5_1 l5_1.length c5_1]] ?_
    with_reducible refine (plinthlaw25_light.calls k a5_0 (fun k_ => k_ < w.heap.size) _ _ l5_1 t272 t273 _ ?side1 A8.out).mono ?_
    (case side1 => exact Kd.V_mk HC5_1.out (Kd.F_below (Kd.C_F (Kd.heap_slice 25 (Kd.heap_int .u32)) HR5_1.out) (upB2 HB.out GE267.out GE268.out)))
    rintro e w22 ⟨v274, rfl, ho0, hb⟩
    refine ⟨_, rfl, ?_⟩
    replace HO271 := Aside0.mk (Kd.V_below (upV HO271.out) hb)
    have HO275 := Aside0.mk (Kd.V_lower (Kd.V_mono (ok' := fun k_ => k_ ≠ gb267 ∧ k_ ≠ gb268) ho0 (fun k_ hk_ => ⟨Or.elim hk_ (fun hs_ => fun e_ => Nat.not_le.2 hs_ (by rw [e_]; exact GW267.out)) (fun hn_ => (Kd.freshB (upK BK267.out) k_ hn_)), Or.elim hk_ (fun hs_ => fun e_ => Nat.not_le.2 hs_ (by rw [e_]; exact GW268.out)) (fun hn_ => (Kd.freshB (upK BK268.out) k_ hn_))⟩)) (below_size (upB2 HB.out GE267.out GE268.out)))
    replace BK267 := Aside0.mk (blk_below (upK BK267.out) hb)
    replace BK268 := Aside0.mk (blk_below (upK BK268.out) hb)
    replace HB := Aside0.mk (below_step (upB2 HB.out GE267.out GE268.out) hb)
    (try clear hb); (try clear hb2); (try clear hk); (try clear hi); (try clear ho0)
    obtain ⟨Ao23, co23, eo23⟩ := Kd.V_slice HO271.out
    (first | subst eo23 | (injection eo23 with f1_ f2_ f3_; have f4_ := f1_.symm; have f5_ := f3_.symm; clear f1_ f2_ f3_; subst f4_; subst f5_))
    obtain ⟨Ao26, co26, eo26⟩ := Kd.V_slice HO275.out
    (first | subst eo26 | (injection eo26 with f1_ f2_ f3_; have f4_ := f1_.symm; have f5_ := f3_.symm; clear f1_ f2_ f3_; subst f4_; subst f5_))
    refine hK.out _ _ ⟨(blk_cell BK267.out 0).trans rfl, (blk_cell BK268.out 0).trans rfl, (blk_cell BK268.out 1).trans rfl⟩ (fun hHeld => ?_)
    clear hK K
    refine nM 20 ?_
    refine last_ (i := 4) (N := none) #[true, true, true, true, true, false] rfl rfl (by kernel_rfl) (by decide) (fun K hK => ?_)
    have hs24 : w22.cell? ⟨gb267, 0, none⟩ = some (.slice A0_0 l0_0.length c0_0) := (blk_cell BK267.out 0).trans rfl
    have hfs24 := blk_frozen BK267.out 0
    have hns24_1 := NB268_267.out
    have hms24_1 := NB267_268.out
    refine skip_ (w1 := ?_) (by rfl) rfl ?_ ?_
    rotate_left
    ·go_simp
     rfl
    refine hK.out _ _ ?_
    clear hK K
    refine last_ (i := 5) (N := none) #[true, true, true, true, true, true] rfl rfl (by kernel_rfl) (by decide) (fun K hK => ?_)
    have hs25 : w22.cell? ⟨gb268, 0, none⟩ = some (.int .i64 a5_0) := (blk_cell BK268.out 0).trans rfl
    have hfs25 := blk_frozen BK268.out 0
    have hns25_0 := NB267_268.out
    have hms25_0 := NB268_267.out
    have hs27 : w22.cell? ⟨gb268, 1, none⟩ = some (.slice A5_1 l5_1.length c5_1) := (blk_cell BK268.out 1).trans rfl
    have hfs27 := blk_frozen BK268.out 1
    have hns27_0 := NB267_268.out
    have hms27_0 := NB268_267.out
    refine skip_ (w1 := ?_) (by rfl) rfl ?_ ?_
    rotate_left
    ·go_simp
     rfl
    refine hK.out _ _ ?_
    clear hK K
    refine done_ (by kernel_rfl) ?_
    have hnb28 := NB267_268.out
    have hnc28 := NB268_267.out
    obtain ⟨hcz29_0, hfz29_0⟩ := cells1 BK267.out
    try go_wp2_with (first | ((with_reducible refine gate_callee (f := 14) rfl ?_); refine goesL_ (some 24) rfl rfl Try.func14 (by kernel_rfl) rfl #[.agg #[.slice Ao23 t269.length co23], .int .i64 a1] rfl argA ?_; (with_reducible refine (tree_Prove.calls k _ _ t269 a1 t276 t277 t280 _ ?side1 ?side2 A9.out).mono ?_); (case side1 => refine (Kd.V_reads' (e := 40) (base := w.heap.size) (ok := fun k_ => (k_ ≠ gb267 ∧ k_ ≠ gb268)) (n := t269.length) (c := co23) ?_).2.2; exact (by refine upV ?_; exact (Kd.V_mono (farV2 (g := gb268) (Kd.V_far (p := ⟨gb267, 0, none⟩) (Kd.V_mono (Kd.V_mono HO271.out (fun k_ hk => (⟨hk, hk.1⟩ : _ ∧ k_ ≠ gb267))) (fun k_ hk => (⟨hk, hk.1.2⟩ : _ ∧ k_ ≠ gb268))) (fun _ hk => hk.1.2) (.slice Ao23 t269.length co23)) 0 (.int .i64 t272) 1 (.slice Ao26 t273.length co26)) (fun _ h_ => h_.1)))); (case side2 => exact (Kd.V_reads' HO271.out).2.1); rintro e w30 ⟨v278, rfl, ho0, hb⟩; refine ⟨_, rfl, ?_⟩; replace HO271 := Aside0.mk (Kd.V_elder' (by refine upV ?_; exact (Kd.V_mono (farV2 (g := gb268) (Kd.V_far (p := ⟨gb267, 0, none⟩) (Kd.V_mono (Kd.V_mono HO271.out (fun k_ hk => (⟨hk, hk.1⟩ : _ ∧ k_ ≠ gb267))) (fun k_ hk => (⟨hk, hk.1.2⟩ : _ ∧ k_ ≠ gb268))) (fun _ hk => hk.1.2) (.slice Ao23 t269.length co23)) 0 (.int .i64 t272) 1 (.slice Ao26 t273.length co26)) (fun _ h_ => h_.1))) (Kd.S_base ho0) hb); replace HO275 := Aside0.mk (Kd.V_elder' (by refine upV ?_; exact (Kd.V_mono (farV2 (g := gb268) (Kd.V_far (p := ⟨gb267, 0, none⟩) (Kd.V_mono (Kd.V_mono HO275.out (fun k_ hk => (⟨hk, hk.1⟩ : _ ∧ k_ ≠ gb267))) (fun k_ hk => (⟨hk, hk.1.2⟩ : _ ∧ k_ ≠ gb268))) (fun _ hk => hk.1.2) (.slice Ao23 t269.length co23)) 0 (.int .i64 t272) 1 (.slice Ao26 t273.length co26)) (fun _ h_ => h_.1))) (Kd.S_base ho0) hb); have HO279 := Aside0.mk (Kd.S_lower ho0 (below_size (upB2 HB.out GE267.out GE268.out))); replace BK267 := Aside0.mk (blk_below (g := gb267) (o := .cells #[.slice Ao23 t269.length co23] 24 (0, 0)) (by refine upK ?_; refine blk_far ?_ NB267_268.out _; refine upK ?_; refine blk_far ?_ NB267_268.out _; refine upK ?_; refine blk_put (cs := #[.slice A0_0 l0_0.length c0_0]) ?_ 0 _ rfl; refine upK ?_; exact BK267.out) hb); replace BK268 := Aside0.mk (blk_below (g := gb268) (o := .cells #[.int .i64 t272, .slice Ao26 t273.length co26] 27 (0, 0)) (by refine upK ?_; refine blk_put (cs := #[.int .i64 t272, .slice A5_1 l5_1.length c5_1]) ?_ 1 _ rfl; refine upK ?_; refine blk_put (cs := #[.int .i64 a5_0, .slice A5_1 l5_1.length c5_1]) ?_ 0 _ rfl; refine upK ?_; refine blk_far ?_ NB268_267.out _; refine upK ?_; exact BK268.out) hb); replace HB := Aside0.mk (below_step (upB2 HB.out GE267.out GE268.out) hb); (try clear hb); (try clear hb2); (try clear hk); (try clear hi); (try clear ho0)) | ((with_reducible refine gate_dst (N := 13) rfl ?_); refine box_event ?hg (N := 13) ?hd (cs := #[.int .i64 0, .slice none 0 0]) (t := 27) ?hr ?_; (case hd => rfl); (case hg => rfl); (case hr => first | (go_simp; done) | (go_simp; rfl)); intro gb281 hg w31 hbox hb; replace HO271 := Aside0.mk (Kd.V_below (Kd.V_elderB (upV HO271.out) gb281 (Nat.le_of_eq hg.symm)) hb); replace HO275 := Aside0.mk (Kd.V_below (Kd.V_elderB (upV HO275.out) gb281 (Nat.le_of_eq hg.symm)) hb); replace HO279 := Aside0.mk (Kd.S_below (by (with_reducible repeat (first | apply Kd.S_alloc | apply Kd.S_drewN | apply Kd.S_drew)); exact HO279.out) hb); have BK281 := Aside0.mk (hbox); have GW281 := Aside0.mk ((by rw [hg]; exact (below_size (upB2 HB.out GE267.out GE268.out)) : w.heap.size ≤ gb281)); have GE281 := Aside0.mk ((by rw [hg]; exact (below_size (upB2 HB.out GE267.out GE268.out)) : w.heap.size ≤ gb281)); replace HB := Aside0.mk (below_step (upB2 HB.out GE267.out GE268.out) hb); have NB267_281 := Aside0.mk ((by rw [hg]; exact Nat.ne_of_lt (blk_lt (upK BK267.out)) : gb267 ≠ gb281)); have NB281_267 := Aside0.mk ((by rw [hg]; exact Nat.ne_of_gt (blk_lt (upK BK267.out)) : gb281 ≠ gb267)); replace BK267 := Aside0.mk (blk_below (upK BK267.out) hb); have NB268_281 := Aside0.mk ((by rw [hg]; exact Nat.ne_of_lt (blk_lt (upK BK268.out)) : gb268 ≠ gb281)); have NB281_268 := Aside0.mk ((by rw [hg]; exact Nat.ne_of_gt (blk_lt (upK BK268.out)) : gb281 ≠ gb268)); replace BK268 := Aside0.mk (blk_below (upK BK268.out) hb); clear hb hbox hg; have hnb32 := NB281_267.out; have hnc32 := NB267_281.out; have hnb33 := NB281_268.out; have hnc33 := NB268_281.out; obtain ⟨hcz34_0, hcz34_1, hfz34_0, hfz34_1⟩ := cells2 BK281.out; obtain ⟨Ao35, co35, eo35⟩ := Kd.S_slice HO279.out; subst eo35; obtain ⟨hcz36_0, hfz36_0⟩ := cells1 BK267.out) | ((with_reducible refine gate_callee (f := 15) rfl ?_); refine goesL_ (some 30) rfl rfl Try.func15 (by kernel_rfl) rfl #[.agg #[.slice Ao23 t269.length co23], .int .i64 a1] rfl argA ?_; (with_reducible refine (plinthref25_Prove.calls k _ _ t269 a1 t282 t283 t286 _ ?side1 ?side2 A10.out).mono ?_); (case side1 => refine (Kd.V_reads' (e := 40) (base := w.heap.size) (ok := fun k_ => (((k_ ≠ gb267 ∧ k_ ≠ gb268) ∧ some k_ ≠ (.slice Ao35 t277.length co35 : Value).ownBlock) ∧ k_ ≠ gb281)) (n := t269.length) (c := co23) ?_).2.2; exact (by refine upV ?_; exact (fV2 (Kd.V_mono HO271.out (fun k_ hk => (⟨hk, hk.2⟩ : _ ∧ k_ ≠ gb281)))))); (case side2 => exact (Kd.V_reads' HO271.out).2.1); rintro e w37 ⟨v284, rfl, ho0, hb⟩; refine ⟨_, rfl, ?_⟩; replace HO271 := Aside0.mk (Kd.V_elder' (by refine upV ?_; exact (fV2 (Kd.V_mono HO271.out (fun k_ hk => (⟨hk, hk.2⟩ : _ ∧ k_ ≠ gb281))))) (Kd.S_base ho0) hb); replace HO275 := Aside0.mk (Kd.V_elder' (by refine upV ?_; exact (fV2 (Kd.V_mono HO275.out (fun k_ hk => (⟨hk, hk.2⟩ : _ ∧ k_ ≠ gb281))))) (Kd.S_base ho0) hb); have HO285 := Aside0.mk (Kd.S_lower (Kd.S_new' ho0 (Kd.S_lt (by (with_reducible repeat (first | apply Kd.S_alloc | apply Kd.S_drewN | apply Kd.S_drew)); exact (Kd.S_mono (Kd.S_far (p := ⟨gb281, 1, none⟩) (Kd.S_far (p := ⟨gb281, 0, none⟩) (Kd.S_types HO279.out BK281.out (by decide)) (fun _ hk => hk.2) (.int .i64 t276)) (fun _ hk => hk.2) (.slice Ao35 t277.length co35)) (fun _ h_ => h_.1))))) (below_size (upB3 HB.out GE267.out GE268.out GE281.out))); replace HO279 := Aside0.mk (Kd.S_elder' (by (with_reducible repeat (first | apply Kd.S_alloc | apply Kd.S_drewN | apply Kd.S_drew)); exact (Kd.S_mono (Kd.S_far (p := ⟨gb281, 1, none⟩) (Kd.S_far (p := ⟨gb281, 0, none⟩) (Kd.S_types HO279.out BK281.out (by decide)) (fun _ hk => hk.2) (.int .i64 t276)) (fun _ hk => hk.2) (.slice Ao35 t277.length co35)) (fun _ h_ => h_.1))) (Kd.S_base ho0) hb); replace BK267 := Aside0.mk (blk_below (g := gb267) (o := .cells #[.slice Ao23 t269.length co23] 24 (0, 0)) (by refine upK ?_; refine blk_far ?_ NB267_281.out _; refine upK ?_; refine blk_far ?_ NB267_281.out _; refine upK ?_; exact BK267.out) hb); replace BK268 := Aside0.mk (blk_below (g := gb268) (o := .cells #[.int .i64 t272, .slice Ao26 t273.length co26] 27 (0, 0)) (by refine upK ?_; refine blk_far ?_ NB268_281.out _; refine upK ?_; refine blk_far ?_ NB268_281.out _; refine upK ?_; exact BK268.out) hb); replace BK281 := Aside0.mk (blk_below (g := gb281) (o := .cells #[.int .i64 t276, .slice Ao35 t277.length co35] 27 (0, 0)) (by refine upK ?_; refine blk_put (cs := #[.int .i64 t276, .slice none 0 0]) ?_ 1 _ rfl; refine upK ?_; refine blk_put (cs := #[.int .i64 0, .slice none 0 0]) ?_ 0 _ rfl; refine upK ?_; exact BK281.out) hb); replace HB := Aside0.mk (below_step (upB3 HB.out GE267.out GE268.out GE281.out) hb); (try clear hb); (try clear hb2); (try clear hk); (try clear hi); (try clear ho0)) | ((with_reducible refine gate_dst (N := 15) rfl ?_); refine box_event ?hg (N := 15) ?hd (cs := #[.int .i64 0, .slice none 0 0]) (t := 27) ?hr ?_; (case hd => rfl); (case hg => rfl); (case hr => first | (go_simp; done) | (go_simp; rfl)); intro gb287 hg w38 hbox hb; replace HO271 := Aside0.mk (Kd.V_below (Kd.V_elderB (upV HO271.out) gb287 (Nat.le_of_eq hg.symm)) hb); replace HO275 := Aside0.mk (Kd.V_below (Kd.V_elderB (upV HO275.out) gb287 (Nat.le_of_eq hg.symm)) hb); replace HO279 := Aside0.mk (Kd.S_below (by (with_reducible repeat (first | apply Kd.S_alloc | apply Kd.S_drewN | apply Kd.S_drew)); exact HO279.out) hb); replace HO285 := Aside0.mk (Kd.S_below (by (with_reducible repeat (first | apply Kd.S_alloc | apply Kd.S_drewN | apply Kd.S_drew)); exact HO285.out) hb); have BK287 := Aside0.mk (hbox); have GW287 := Aside0.mk ((by rw [hg]; exact (below_size (upB3 HB.out GE267.out GE268.out GE281.out)) : w.heap.size ≤ gb287)); have GE287 := Aside0.mk ((by rw [hg]; exact (below_size (upB3 HB.out GE267.out GE268.out GE281.out)) : w.heap.size ≤ gb287)); replace HB := Aside0.mk (below_step (upB3 HB.out GE267.out GE268.out GE281.out) hb); have NB267_287 := Aside0.mk ((by rw [hg]; exact Nat.ne_of_lt (blk_lt (upK BK267.out)) : gb267 ≠ gb287)); have NB287_267 := Aside0.mk ((by rw [hg]; exact Nat.ne_of_gt (blk_lt (upK BK267.out)) : gb287 ≠ gb267)); replace BK267 := Aside0.mk (blk_below (upK BK267.out) hb); have NB268_287 := Aside0.mk ((by rw [hg]; exact Nat.ne_of_lt (blk_lt (upK BK268.out)) : gb268 ≠ gb287)); have NB287_268 := Aside0.mk ((by rw [hg]; exact Nat.ne_of_gt (blk_lt (upK BK268.out)) : gb287 ≠ gb268)); replace BK268 := Aside0.mk (blk_below (upK BK268.out) hb); have NB281_287 := Aside0.mk ((by rw [hg]; exact Nat.ne_of_lt (blk_lt (upK BK281.out)) : gb281 ≠ gb287)); have NB287_281 := Aside0.mk ((by rw [hg]; exact Nat.ne_of_gt (blk_lt (upK BK281.out)) : gb287 ≠ gb281)); replace BK281 := Aside0.mk (blk_below (upK BK281.out) hb); clear hb hbox hg; have hnb39 := NB287_267.out; have hnc39 := NB267_287.out; have hnb40 := NB287_268.out; have hnc40 := NB268_287.out; have hnb41 := NB287_281.out; have hnc41 := NB281_287.out; obtain ⟨hcz42_0, hcz42_1, hfz42_0, hfz42_1⟩ := cells2 BK287.out; obtain ⟨Ao43, co43, eo43⟩ := Kd.S_slice HO285.out; subst eo43))
    have n0_ : Aside0 (Kd.V (Kd.slice 25 (Kd.int .u32)) 40 ((w38.setCell ⟨gb287, 0, none⟩ (.int .i64 t282)).setCell ⟨gb287, 1, none⟩ (.slice Ao43 t283.length co43)) w.heap.size (fun k_ => some k_ ≠ (.slice Ao35 t277.length co35 : Value).ownBlock ∧ some k_ ≠ (.slice Ao43 t283.length co43 : Value).ownBlock ∧ k_ ≠ gb267 ∧ k_ ≠ gb268 ∧ k_ ≠ gb281 ∧ k_ ≠ gb287) (.slice Ao23 t269.length co23) t269) := ⟨by refine upV ?_; exact Kd.V_mono (garV2 (g := gb287) (Kd.V_mono HO271.out (fun k_ hk => (⟨hk, hk.2⟩ : _ ∧ k_ ≠ gb287))) 0 (.int .i64 t282) 1 (.slice Ao43 t283.length co43)) (fun _ hk => ⟨hk.1.1.1.1.2, ⟨hk.1.1.2, ⟨hk.1.1.1.1.1.1, ⟨hk.1.1.1.1.1.2, ⟨hk.1.1.1.2, hk.1.2⟩⟩⟩⟩⟩)⟩
    have n1_ : Aside0 (Kd.V (Kd.slice 25 (Kd.int .u32)) 40 ((w38.setCell ⟨gb287, 0, none⟩ (.int .i64 t282)).setCell ⟨gb287, 1, none⟩ (.slice Ao43 t283.length co43)) w.heap.size (fun k_ => some k_ ≠ (.slice Ao35 t277.length co35 : Value).ownBlock ∧ some k_ ≠ (.slice Ao43 t283.length co43 : Value).ownBlock ∧ k_ ≠ gb267 ∧ k_ ≠ gb268 ∧ k_ ≠ gb281 ∧ k_ ≠ gb287) (.slice Ao26 t273.length co26) t273) := ⟨by refine upV ?_; exact Kd.V_mono (garV2 (g := gb287) (Kd.V_mono HO275.out (fun k_ hk => (⟨hk, hk.2⟩ : _ ∧ k_ ≠ gb287))) 0 (.int .i64 t282) 1 (.slice Ao43 t283.length co43)) (fun _ hk => ⟨hk.1.1.1.1.2, ⟨hk.1.1.2, ⟨hk.1.1.1.1.1.1, ⟨hk.1.1.1.1.1.2, ⟨hk.1.1.1.2, hk.1.2⟩⟩⟩⟩⟩)⟩
    have n2_ : Aside0 (Kd.S (Kd.slice 25 (Kd.int .u32)) 40 ((w38.setCell ⟨gb287, 0, none⟩ (.int .i64 t282)).setCell ⟨gb287, 1, none⟩ (.slice Ao43 t283.length co43)) w.heap.size (fun k_ => some k_ ≠ (.slice Ao43 t283.length co43 : Value).ownBlock) (.slice Ao35 t277.length co35) t277) := ⟨by (with_reducible repeat (first | apply Kd.S_alloc | apply Kd.S_drewN | apply Kd.S_drew)); exact Kd.S_mono (Kd.S_far (p := ⟨gb287, 1, none⟩) (Kd.S_far (p := ⟨gb287, 0, none⟩) (Kd.S_types HO279.out BK287.out (by decide)) (fun _ hk => hk.2) (.int .i64 t282)) (fun _ hk => hk.2) (.slice Ao43 t283.length co43)) (fun _ hk => hk.1.2)⟩
    have n3_ : Aside0 (Kd.S (Kd.slice 25 (Kd.int .u32)) 40 ((w38.setCell ⟨gb287, 0, none⟩ (.int .i64 t282)).setCell ⟨gb287, 1, none⟩ (.slice Ao43 t283.length co43)) w.heap.size (fun k_ => some k_ ≠ (.slice Ao35 t277.length co35 : Value).ownBlock) (.slice Ao43 t283.length co43) t283) := ⟨by (with_reducible repeat (first | apply Kd.S_alloc | apply Kd.S_drewN | apply Kd.S_drew)); exact Kd.S_mono (Kd.S_far (p := ⟨gb287, 1, none⟩) (Kd.S_far (p := ⟨gb287, 0, none⟩) (Kd.S_types HO285.out BK287.out (by decide)) (fun _ hk => hk.2) (.int .i64 t282)) (fun _ hk => hk.2) (.slice Ao43 t283.length co43)) (fun _ hk => hk.1.2)⟩
    have n4_ : Aside0 (((w38.setCell ⟨gb287, 0, none⟩ (.int .i64 t282)).setCell ⟨gb287, 1, none⟩ (.slice Ao43 t283.length co43)).heap[gb267]? = some (.cells #[.slice Ao23 t269.length co23] 24 (0, 0))) := ⟨by refine upK ?_; refine blk_far ?_ NB267_287.out _; refine upK ?_; refine blk_far ?_ NB267_287.out _; refine upK ?_; exact BK267.out⟩
    have n5_ : Aside0 (((w38.setCell ⟨gb287, 0, none⟩ (.int .i64 t282)).setCell ⟨gb287, 1, none⟩ (.slice Ao43 t283.length co43)).heap[gb268]? = some (.cells #[.int .i64 t272, .slice Ao26 t273.length co26] 27 (0, 0))) := ⟨by refine upK ?_; refine blk_far ?_ NB268_287.out _; refine upK ?_; refine blk_far ?_ NB268_287.out _; refine upK ?_; exact BK268.out⟩
    have n6_ : Aside0 (((w38.setCell ⟨gb287, 0, none⟩ (.int .i64 t282)).setCell ⟨gb287, 1, none⟩ (.slice Ao43 t283.length co43)).heap[gb281]? = some (.cells #[.int .i64 t276, .slice Ao35 t277.length co35] 27 (0, 0))) := ⟨by refine upK ?_; refine blk_far ?_ NB281_287.out _; refine upK ?_; refine blk_far ?_ NB281_287.out _; refine upK ?_; exact BK281.out⟩
    have n7_ : Aside0 (((w38.setCell ⟨gb287, 0, none⟩ (.int .i64 t282)).setCell ⟨gb287, 1, none⟩ (.slice Ao43 t283.length co43)).heap[gb287]? = some (.cells #[.int .i64 t282, .slice Ao43 t283.length co43] 27 (0, 0))) := ⟨by refine upK ?_; refine blk_put (cs := #[.int .i64 t282, .slice none 0 0]) ?_ 1 _ rfl; refine upK ?_; refine blk_put (cs := #[.int .i64 0, .slice none 0 0]) ?_ 0 _ rfl; refine upK ?_; exact BK287.out⟩
    have n8_ : Aside0 (Below w.heap.size w ((w38.setCell ⟨gb287, 0, none⟩ (.int .i64 t282)).setCell ⟨gb287, 1, none⟩ (.slice Ao43 t283.length co43))) := ⟨upB4 HB.out GE267.out GE268.out GE281.out GE287.out⟩
    (try clear HO271); (try clear HO275); (try clear HO279); (try clear HO285); (try clear BK267); (try clear BK268); (try clear BK281); (try clear BK287); (try clear HB)
    generalize ((w38.setCell ⟨gb287, 0, none⟩ (.int .i64 t282)).setCell ⟨gb287, 1, none⟩ (.slice Ao43 t283.length co43)) = w44 at n0_ n1_ n2_ n3_ n4_ n5_ n6_ n7_ n8_ ⊢
    have HO271 := n0_
    have HO275 := n1_
    have HO279 := n2_
    have HO285 := n3_
    have BK267 := n4_
    have BK268 := n5_
    have BK281 := n6_
    have BK287 := n7_
    have HB := n8_
    clear n0_ n1_ n2_ n3_ n4_ n5_ n6_ n7_ n8_
    replace HO271 := Aside0.mk (Kd.V_drew HO271.out)
    replace HO275 := Aside0.mk (Kd.V_drew HO275.out)
    replace HO279 := Aside0.mk (Kd.S_drew HO279.out)
    replace HO285 := Aside0.mk (Kd.S_drew HO285.out)
    replace BK267 := Aside0.mk (blk_drew BK267.out)
    replace BK268 := Aside0.mk (blk_drew BK268.out)
    replace BK281 := Aside0.mk (blk_drew BK281.out)
    replace BK287 := Aside0.mk (blk_drew BK287.out)
    replace HB := Aside0.mk (below_drew1 HB.out)
    refine start_ (n := 25) (S := fun w' => w'.cell? ⟨gb281, 0, none⟩ = some (.int .i64 t276) ∧ w'.cell? ⟨gb281, 1, none⟩ = some (.slice Ao35 t277.length co35) ∧ w'.cell? ⟨gb287, 0, none⟩ = some (.int .i64 t282) ∧ w'.cell? ⟨gb287, 1, none⟩ = some (.slice Ao43 t283.length co43) ∧ w'.cell? ⟨gb268, 0, none⟩ = some (.int .i64 t272) ∧ w'.cell? ⟨gb268, 1, none⟩ = some (.slice Ao26 t273.length co26)) (ds := []) (Array.replicate 25 false) (by kernel_rfl) rfl rfl ⟨(blk_cell BK281.out 0).trans rfl, (blk_cell BK281.out 1).trans rfl, (blk_cell BK287.out 0).trans rfl, (blk_cell BK287.out 1).trans rfl, (blk_cell BK268.out 0).trans rfl, (blk_cell BK268.out 1).trans rfl⟩ (fun hHeld => ?_); refine with_tabW plinthlaw25_TreeProves.tab4 plinthlaw25_TreeProves.bits4 (fun HT_ HW_ => ?_)
    generalize w44.drew = w45 at HO271 HO275 HO279 HO285 BK267 BK268 BK281 BK287 HB hHeld ⊢
    refine tM 0 33 HT_.out HW_.out hHeld ?_; refine tM 1 34 HT_.out HW_.out hHeld ?_
    refine oM 2 35 HT_.out (fun K hK => ?_)
    refine gM Try.func16 #[.agg #[.int .i64 t276, .slice Ao35 t277.length co35], .agg #[.int .i64 t282, .slice Ao43 t283.length co43]] ?_
    with_reducible refine (plinthref25_SameProof.calls k t276 _ _ t277 t282 _ _ t283 true _ ?side1 ?side2 ?side3 ?side4 A11.out).mono ?_
    (case side1 => exact upC ((Kd.S_reads' HO279.out).2.2))
    (case side2 => exact (Kd.S_reads' HO279.out).2.1)
    (case side3 => exact upC ((Kd.S_reads' HO285.out).2.2))
    (case side4 => exact (Kd.S_reads' HO285.out).2.1)
    rintro e w46 ⟨rfl, hb⟩
    refine ⟨_, rfl, ?_⟩
    replace HO271 := Aside0.mk (Kd.V_below (upV HO271.out) hb)
    replace HO275 := Aside0.mk (Kd.V_below (upV HO275.out) hb)
    replace HO279 := Aside0.mk (Kd.S_below (by (with_reducible repeat (first | apply Kd.S_alloc | apply Kd.S_drewN | apply Kd.S_drew)); exact HO279.out) hb)
    replace HO285 := Aside0.mk (Kd.S_below (by (with_reducible repeat (first | apply Kd.S_alloc | apply Kd.S_drewN | apply Kd.S_drew)); exact HO285.out) hb)
    replace BK267 := Aside0.mk (blk_below (upK BK267.out) hb)
    replace BK268 := Aside0.mk (blk_below (upK BK268.out) hb)
    replace BK281 := Aside0.mk (blk_below (upK BK281.out) hb)
    replace BK287 := Aside0.mk (blk_below (upK BK287.out) hb)
    replace HB := Aside0.mk (below_step (upB4 HB.out GE267.out GE268.out GE281.out GE287.out) hb)
    (try clear hb); (try clear hb2); (try clear hk); (try clear hi)
    refine hK.out _ _ ⟨(blk_cell BK281.out 0).trans rfl, (blk_cell BK281.out 1).trans rfl, (blk_cell BK287.out 0).trans rfl, (blk_cell BK287.out 1).trans rfl, (blk_cell BK268.out 0).trans rfl, (blk_cell BK268.out 1).trans rfl⟩ (fun hHeld => ?_)
    clear hK K
    refine nM 35 ?_; refine pM 3 36 HT_.out ?_; refine pM 4 37 HT_.out ?_; refine pM 5 38 HT_.out ?_; refine pM 6 39 HT_.out ?_; refine pM 7 40 HT_.out ?_; refine pM 8 41 HT_.out ?_; refine pM 9 42 HT_.out ?_; refine pM 10 43 HT_.out ?_; refine pM 11 44 HT_.out ?_; refine pM 14 47 HT_.out ?_; refine pM 15 48 HT_.out ?_; refine pM 16 49 HT_.out ?_; refine tM 12 45 HT_.out HW_.out hHeld ?_; refine tM 17 50 HT_.out HW_.out hHeld ?_
    refine oM 13 46 HT_.out (fun K hK => ?_)
    refine gM Try.func17 #[.int .u32 a2, .int .i64 a3, .int .u32 a4, .agg #[.int .i64 t272, .slice Ao26 t273.length co26]] ?_
    with_reducible refine (tree_Proved.calls k a2 a3 a4 t272 _ _ t273 t289 _ ?side1 ?side2 A14.out).mono ?_
    (case side1 => exact upC ((Kd.V_reads' HO275.out).2.2))
    (case side2 => exact (Kd.V_reads' HO275.out).2.1)
    rintro e w47 ⟨rfl, hb⟩
    refine ⟨_, rfl, ?_⟩
    replace HO271 := Aside0.mk (Kd.V_below (upV HO271.out) hb)
    replace HO275 := Aside0.mk (Kd.V_below (upV HO275.out) hb)
    replace HO279 := Aside0.mk (Kd.S_below (by (with_reducible repeat (first | apply Kd.S_alloc | apply Kd.S_drewN | apply Kd.S_drew)); exact HO279.out) hb)
    replace HO285 := Aside0.mk (Kd.S_below (by (with_reducible repeat (first | apply Kd.S_alloc | apply Kd.S_drewN | apply Kd.S_drew)); exact HO285.out) hb)
    replace BK267 := Aside0.mk (blk_below (upK BK267.out) hb)
    replace BK268 := Aside0.mk (blk_below (upK BK268.out) hb)
    replace BK281 := Aside0.mk (blk_below (upK BK281.out) hb)
    replace BK287 := Aside0.mk (blk_below (upK BK287.out) hb)
    replace HB := Aside0.mk (below_step (upB4 HB.out GE267.out GE268.out GE281.out GE287.out) hb)
    (try clear hb); (try clear hb2); (try clear hk); (try clear hi)
    refine hK.out _ _ ⟨(blk_cell BK281.out 0).trans rfl, (blk_cell BK281.out 1).trans rfl, (blk_cell BK287.out 0).trans rfl, (blk_cell BK287.out 1).trans rfl, (blk_cell BK268.out 0).trans rfl, (blk_cell BK268.out 1).trans rfl⟩ (fun hHeld => ?_)
    clear hK K
    refine nM 46 ?_
    refine oM 18 51 HT_.out (fun K hK => ?_)
    refine gM Try.func18 #[.int .u32 a2, .int .i64 a3, .int .u32 a4, .agg #[.int .i64 t272, .slice Ao26 t273.length co26]] ?_
    with_reducible refine (plinthref25_Proved.calls k a2 a3 a4 t272 _ _ t273 t290 _ ?side1 ?side2 A15.out).mono ?_
    (case side1 => exact upC ((Kd.V_reads' HO275.out).2.2))
    (case side2 => exact (Kd.V_reads' HO275.out).2.1)
    rintro e w48 ⟨rfl, hb⟩
    refine ⟨_, rfl, ?_⟩
    replace HO271 := Aside0.mk (Kd.V_below (upV HO271.out) hb)
    replace HO275 := Aside0.mk (Kd.V_below (upV HO275.out) hb)
    replace HO279 := Aside0.mk (Kd.S_below (by (with_reducible repeat (first | apply Kd.S_alloc | apply Kd.S_drewN | apply Kd.S_drew)); exact HO279.out) hb)
    replace HO285 := Aside0.mk (Kd.S_below (by (with_reducible repeat (first | apply Kd.S_alloc | apply Kd.S_drewN | apply Kd.S_drew)); exact HO285.out) hb)
    replace BK267 := Aside0.mk (blk_below (upK BK267.out) hb)
    replace BK268 := Aside0.mk (blk_below (upK BK268.out) hb)
    replace BK281 := Aside0.mk (blk_below (upK BK281.out) hb)
    replace BK287 := Aside0.mk (blk_below (upK BK287.out) hb)
    replace HB := Aside0.mk (below_step (upB4 HB.out GE267.out GE268.out GE281.out GE287.out) hb)
    (try clear hb); (try clear hb2); (try clear hk); (try clear hi)
    refine hK.out _ _ ⟨(blk_cell BK281.out 0).trans rfl, (blk_cell BK281.out 1).trans rfl, (blk_cell BK287.out 0).trans rfl, (blk_cell BK287.out 1).trans rfl, (blk_cell BK268.out 0).trans rfl, (blk_cell BK268.out 1).trans rfl⟩ (fun hHeld => ?_)
    clear hK K
    refine nM 51 ?_; refine pM 19 52 HT_.out ?_; refine pM 20 53 HT_.out ?_; refine pM 21 54 HT_.out ?_
    refine oM 22 55 HT_.out (fun K hK => ?_)
    refine gM Try.func19 #[] ?_
    with_reducible refine (plinthlaw25_awake.calls k  t291 _ A17.out).mono ?_
    rintro e w49 ⟨rfl, hb⟩
    refine ⟨_, rfl, ?_⟩
    replace HO271 := Aside0.mk (Kd.V_below (upV HO271.out) hb)
    replace HO275 := Aside0.mk (Kd.V_below (upV HO275.out) hb)
    replace HO279 := Aside0.mk (Kd.S_below (by (with_reducible repeat (first | apply Kd.S_alloc | apply Kd.S_drewN | apply Kd.S_drew)); exact HO279.out) hb)
    replace HO285 := Aside0.mk (Kd.S_below (by (with_reducible repeat (first | apply Kd.S_alloc | apply Kd.S_drewN | apply Kd.S_drew)); exact HO285.out) hb)
    replace BK267 := Aside0.mk (blk_below (upK BK267.out) hb)
    replace BK268 := Aside0.mk (blk_below (upK BK268.out) hb)
    replace BK281 := Aside0.mk (blk_below (upK BK281.out) hb)
    replace BK287 := Aside0.mk (blk_below (upK BK287.out) hb)
    replace HB := Aside0.mk (below_step (upB4 HB.out GE267.out GE268.out GE281.out GE287.out) hb)
    (try clear hb); (try clear hb2); (try clear hk); (try clear hi)
    refine hK.out _ _ ⟨(blk_cell BK281.out 0).trans rfl, (blk_cell BK281.out 1).trans rfl, (blk_cell BK287.out 0).trans rfl, (blk_cell BK287.out 1).trans rfl, (blk_cell BK268.out 0).trans rfl, (blk_cell BK268.out 1).trans rfl⟩ (fun hHeld => ?_)
    clear hK K
    refine nM 55 ?_; refine pM 23 56 HT_.out ?_; refine pM 24 12 HT_.out ?_
    refine done_ (done_of HT_.out (by kernel_rfl)) ?_
    try go_wp2
    go_ret
    exact ⟨by first | rfl | (simp [errW_none, errW_some] <;> rfl) | (simp [*, errW_none, errW_some] <;> rfl), upB4 HB.out GE267.out GE268.out GE281.out GE287.out⟩
   ·rw [if_neg c16] at H
    have c16b0 : (t289 == t290) = false := beq_eq_false_iff_ne.mpr c16
    have c16b1 : (t289 != t290) = true := bne_iff_ne.mpr c16
    obtain rfl := Option.some.inj H
    go_enter Try.func3, Try.ntmps3
    try go_wp2_with (first | ((with_reducible refine gate_dst (N := 6) rfl ?_); refine box_event ?hg (N := 6) ?hd (cs := #[.slice A0_0 l0_0.length c0_0]) (t := 24) ?hr ?_; (case hd => rfl); (case hg => rfl); (case hr => first | (go_simp; done) | (go_simp; rfl)); intro gb267 hg w50 hbox hb; have BK267 := Aside0.mk (hbox); have GW267 := Aside0.mk ((by rw [hg]; exact (below_size (upB0 HB.out)) : w.heap.size ≤ gb267)); have GE267 := Aside0.mk ((by rw [hg]; exact (below_size (upB0 HB.out)) : w.heap.size ≤ gb267)); replace HB := Aside0.mk (below_step (upB0 HB.out) hb); clear hb hbox hg) | ((with_reducible refine gate_dst (N := 11) rfl ?_); refine box_event ?hg (N := 11) ?hd (cs := #[.int .i64 a5_0, .slice A5_1 l5_1.length c5_1]) (t := 27) ?hr ?_; (case hd => rfl); (case hg => rfl); (case hr => first | (go_simp; done) | (go_simp; rfl)); intro gb268 hg w51 hbox hb; have BK268 := Aside0.mk (hbox); have GW268 := Aside0.mk ((by rw [hg]; exact (below_size (upB1 HB.out GE267.out)) : w.heap.size ≤ gb268)); have GE268 := Aside0.mk ((by rw [hg]; exact (below_size (upB1 HB.out GE267.out)) : w.heap.size ≤ gb268)); replace HB := Aside0.mk (below_step (upB1 HB.out GE267.out) hb); have NB267_268 := Aside0.mk ((by rw [hg]; exact Nat.ne_of_lt (blk_lt (upK BK267.out)) : gb267 ≠ gb268)); have NB268_267 := Aside0.mk ((by rw [hg]; exact Nat.ne_of_gt (blk_lt (upK BK267.out)) : gb268 ≠ gb267)); replace BK267 := Aside0.mk (blk_below (upK BK267.out) hb); clear hb hbox hg))
    replace BK267 := Aside0.mk (blk_drew BK267.out)
    replace BK268 := Aside0.mk (blk_drew BK268.out)
    replace HB := Aside0.mk (below_drew1 HB.out)
    refine start_ (n := 6) (S := fun w' => w'.cell? ⟨gb267, 0, none⟩ = some (.slice A0_0 l0_0.length c0_0) ∧ w'.cell? ⟨gb268, 0, none⟩ = some (.int .i64 a5_0) ∧ w'.cell? ⟨gb268, 1, none⟩ = some (.slice A5_1 l5_1.length c5_1)) (ds := [4, 5]) (Array.replicate 6 false) (by kernel_rfl) rfl rfl ⟨(blk_cell BK267.out 0).trans rfl, (blk_cell BK268.out 0).trans rfl, (blk_cell BK268.out 1).trans rfl⟩ (fun hHeld => ?_)
    generalize w51.drew = w52 at BK267 BK268 HB hHeld ⊢
    refine take_ (i := 0) (N := some 17) (v := ?_) (a' := ?_) #[true, false, false, false, false, false] rfl rfl (by kernel_rfl) (fun _ _ _ h => h) (Or.inl ⟨by rfl, ?_⟩) hHeld ?_ ?_
    rotate_left
    ·rintro w' ⟨s0, s1, s2⟩
     go_simp
     with_reducible rfl
    rotate_left
    ·simp only [Act.put, List.setIfInBounds_toArray, List.set_cons_zero, List.set_cons_succ, i64_w, i32_w]
     rfl
    refine take_ (i := 2) (N := some 19) (v := ?_) (a' := ?_) #[true, false, true, false, false, false] rfl rfl (by kernel_rfl) (fun _ _ _ h => h) (Or.inl ⟨by rfl, ?_⟩) hHeld ?_ ?_
    rotate_left
    ·rintro w' ⟨s0, s1, s2⟩
     go_simp
     with_reducible rfl
    rotate_left
    ·simp only [Act.put, List.setIfInBounds_toArray, List.set_cons_zero, List.set_cons_succ, i64_w, i32_w]
     rfl
    refine one_ (i := 1) (N := some 18) #[true, true, true, false, false, false] rfl rfl (by kernel_rfl) (by decide) (fun K hK => ?_)
    refine gM Try.func12 #[.agg #[.slice A0_0 l0_0.length c0_0]] ?_
    with_reducible refine (plinthlaw25_cut.calls k (fun k_ => k_ < w.heap.size) _ _ l0_0 t269 _ ?side1 A7.out).mono ?_
    (case side1 => exact Kd.V_mk HC0_0.out (Kd.F_below (Kd.C_F (Kd.heap_slice 25 (Kd.heap_int .u32)) HR0_0.out) (upB2 HB.out GE267.out GE268.out)))
    rintro e w53 ⟨v270, rfl, ho0, hb⟩
    refine ⟨_, rfl, ?_⟩
    have HO271 := Aside0.mk (Kd.V_lower (Kd.V_mono (ok' := fun k_ => k_ ≠ gb267 ∧ k_ ≠ gb268) ho0 (fun k_ hk_ => ⟨Or.elim hk_ (fun hs_ => fun e_ => Nat.not_le.2 hs_ (by rw [e_]; exact GW267.out)) (fun hn_ => (Kd.freshB (upK BK267.out) k_ hn_)), Or.elim hk_ (fun hs_ => fun e_ => Nat.not_le.2 hs_ (by rw [e_]; exact GW268.out)) (fun hn_ => (Kd.freshB (upK BK268.out) k_ hn_))⟩)) (below_size (upB2 HB.out GE267.out GE268.out)))
    replace BK267 := Aside0.mk (blk_below (upK BK267.out) hb)
    replace BK268 := Aside0.mk (blk_below (upK BK268.out) hb)
    replace HB := Aside0.mk (below_step (upB2 HB.out GE267.out GE268.out) hb)
    (try clear hb); (try clear hb2); (try clear hk); (try clear hi); (try clear ho0)
    refine hK.out _ _ ⟨(blk_cell BK267.out 0).trans rfl, (blk_cell BK268.out 0).trans rfl, (blk_cell BK268.out 1).trans rfl⟩ (fun hHeld => ?_)
    clear hK K
    refine nM 18 ?_
    refine one_ (i := 3) (N := some 20) #[true, true, true, true, false, false] rfl rfl (by kernel_rfl) (by decide) (fun K hK => ?_)
    refine gM Try.func13 #[.agg #[.int .i64 a5_0, .slice A5_1 l5_1.length c5_1]] ?_
    with_reducible refine (plinthlaw25_light.calls k a5_0 (fun k_ => k_ < w.heap.size) _ _ l5_1 t272 t273 _ ?side1 A8.out).mono ?_
    (case side1 => exact Kd.V_mk HC5_1.out (Kd.F_below (Kd.C_F (Kd.heap_slice 25 (Kd.heap_int .u32)) HR5_1.out) (upB2 HB.out GE267.out GE268.out)))
    rintro e w54 ⟨v274, rfl, ho0, hb⟩
    refine ⟨_, rfl, ?_⟩
    replace HO271 := Aside0.mk (Kd.V_below (upV HO271.out) hb)
    have HO275 := Aside0.mk (Kd.V_lower (Kd.V_mono (ok' := fun k_ => k_ ≠ gb267 ∧ k_ ≠ gb268) ho0 (fun k_ hk_ => ⟨Or.elim hk_ (fun hs_ => fun e_ => Nat.not_le.2 hs_ (by rw [e_]; exact GW267.out)) (fun hn_ => (Kd.freshB (upK BK267.out) k_ hn_)), Or.elim hk_ (fun hs_ => fun e_ => Nat.not_le.2 hs_ (by rw [e_]; exact GW268.out)) (fun hn_ => (Kd.freshB (upK BK268.out) k_ hn_))⟩)) (below_size (upB2 HB.out GE267.out GE268.out)))
    replace BK267 := Aside0.mk (blk_below (upK BK267.out) hb)
    replace BK268 := Aside0.mk (blk_below (upK BK268.out) hb)
    replace HB := Aside0.mk (below_step (upB2 HB.out GE267.out GE268.out) hb)
    (try clear hb); (try clear hb2); (try clear hk); (try clear hi); (try clear ho0)
    obtain ⟨Ao55, co55, eo55⟩ := Kd.V_slice HO271.out
    (first | subst eo55 | (injection eo55 with f1_ f2_ f3_; have f4_ := f1_.symm; have f5_ := f3_.symm; clear f1_ f2_ f3_; subst f4_; subst f5_))
    obtain ⟨Ao58, co58, eo58⟩ := Kd.V_slice HO275.out
    (first | subst eo58 | (injection eo58 with f1_ f2_ f3_; have f4_ := f1_.symm; have f5_ := f3_.symm; clear f1_ f2_ f3_; subst f4_; subst f5_))
    refine hK.out _ _ ⟨(blk_cell BK267.out 0).trans rfl, (blk_cell BK268.out 0).trans rfl, (blk_cell BK268.out 1).trans rfl⟩ (fun hHeld => ?_)
    clear hK K
    refine nM 20 ?_
    refine last_ (i := 4) (N := none) #[true, true, true, true, true, false] rfl rfl (by kernel_rfl) (by decide) (fun K hK => ?_)
    have hs56 : w54.cell? ⟨gb267, 0, none⟩ = some (.slice A0_0 l0_0.length c0_0) := (blk_cell BK267.out 0).trans rfl
    have hfs56 := blk_frozen BK267.out 0
    have hns56_1 := NB268_267.out
    have hms56_1 := NB267_268.out
    refine skip_ (w1 := ?_) (by rfl) rfl ?_ ?_
    rotate_left
    ·go_simp
     rfl
    refine hK.out _ _ ?_
    clear hK K
    refine last_ (i := 5) (N := none) #[true, true, true, true, true, true] rfl rfl (by kernel_rfl) (by decide) (fun K hK => ?_)
    have hs57 : w54.cell? ⟨gb268, 0, none⟩ = some (.int .i64 a5_0) := (blk_cell BK268.out 0).trans rfl
    have hfs57 := blk_frozen BK268.out 0
    have hns57_0 := NB267_268.out
    have hms57_0 := NB268_267.out
    have hs59 : w54.cell? ⟨gb268, 1, none⟩ = some (.slice A5_1 l5_1.length c5_1) := (blk_cell BK268.out 1).trans rfl
    have hfs59 := blk_frozen BK268.out 1
    have hns59_0 := NB267_268.out
    have hms59_0 := NB268_267.out
    refine skip_ (w1 := ?_) (by rfl) rfl ?_ ?_
    rotate_left
    ·go_simp
     rfl
    refine hK.out _ _ ?_
    clear hK K
    refine done_ (by kernel_rfl) ?_
    have hnb60 := NB267_268.out
    have hnc60 := NB268_267.out
    obtain ⟨hcz61_0, hfz61_0⟩ := cells1 BK267.out
    try go_wp2_with (first | ((with_reducible refine gate_callee (f := 14) rfl ?_); refine goesL_ (some 24) rfl rfl Try.func14 (by kernel_rfl) rfl #[.agg #[.slice Ao55 t269.length co55], .int .i64 a1] rfl argA ?_; (with_reducible refine (tree_Prove.calls k _ _ t269 a1 t276 t277 t280 _ ?side1 ?side2 A9.out).mono ?_); (case side1 => refine (Kd.V_reads' (e := 40) (base := w.heap.size) (ok := fun k_ => (k_ ≠ gb267 ∧ k_ ≠ gb268)) (n := t269.length) (c := co55) ?_).2.2; exact (by refine upV ?_; exact (Kd.V_mono (farV2 (g := gb268) (Kd.V_far (p := ⟨gb267, 0, none⟩) (Kd.V_mono (Kd.V_mono HO271.out (fun k_ hk => (⟨hk, hk.1⟩ : _ ∧ k_ ≠ gb267))) (fun k_ hk => (⟨hk, hk.1.2⟩ : _ ∧ k_ ≠ gb268))) (fun _ hk => hk.1.2) (.slice Ao55 t269.length co55)) 0 (.int .i64 t272) 1 (.slice Ao58 t273.length co58)) (fun _ h_ => h_.1)))); (case side2 => exact (Kd.V_reads' HO271.out).2.1); rintro e w62 ⟨v278, rfl, ho0, hb⟩; refine ⟨_, rfl, ?_⟩; replace HO271 := Aside0.mk (Kd.V_elder' (by refine upV ?_; exact (Kd.V_mono (farV2 (g := gb268) (Kd.V_far (p := ⟨gb267, 0, none⟩) (Kd.V_mono (Kd.V_mono HO271.out (fun k_ hk => (⟨hk, hk.1⟩ : _ ∧ k_ ≠ gb267))) (fun k_ hk => (⟨hk, hk.1.2⟩ : _ ∧ k_ ≠ gb268))) (fun _ hk => hk.1.2) (.slice Ao55 t269.length co55)) 0 (.int .i64 t272) 1 (.slice Ao58 t273.length co58)) (fun _ h_ => h_.1))) (Kd.S_base ho0) hb); replace HO275 := Aside0.mk (Kd.V_elder' (by refine upV ?_; exact (Kd.V_mono (farV2 (g := gb268) (Kd.V_far (p := ⟨gb267, 0, none⟩) (Kd.V_mono (Kd.V_mono HO275.out (fun k_ hk => (⟨hk, hk.1⟩ : _ ∧ k_ ≠ gb267))) (fun k_ hk => (⟨hk, hk.1.2⟩ : _ ∧ k_ ≠ gb268))) (fun _ hk => hk.1.2) (.slice Ao55 t269.length co55)) 0 (.int .i64 t272) 1 (.slice Ao58 t273.length co58)) (fun _ h_ => h_.1))) (Kd.S_base ho0) hb); have HO279 := Aside0.mk (Kd.S_lower ho0 (below_size (upB2 HB.out GE267.out GE268.out))); replace BK267 := Aside0.mk (blk_below (g := gb267) (o := .cells #[.slice Ao55 t269.length co55] 24 (0, 0)) (by refine upK ?_; refine blk_far ?_ NB267_268.out _; refine upK ?_; refine blk_far ?_ NB267_268.out _; refine upK ?_; refine blk_put (cs := #[.slice A0_0 l0_0.length c0_0]) ?_ 0 _ rfl; refine upK ?_; exact BK267.out) hb); replace BK268 := Aside0.mk (blk_below (g := gb268) (o := .cells #[.int .i64 t272, .slice Ao58 t273.length co58] 27 (0, 0)) (by refine upK ?_; refine blk_put (cs := #[.int .i64 t272, .slice A5_1 l5_1.length c5_1]) ?_ 1 _ rfl; refine upK ?_; refine blk_put (cs := #[.int .i64 a5_0, .slice A5_1 l5_1.length c5_1]) ?_ 0 _ rfl; refine upK ?_; refine blk_far ?_ NB268_267.out _; refine upK ?_; exact BK268.out) hb); replace HB := Aside0.mk (below_step (upB2 HB.out GE267.out GE268.out) hb); (try clear hb); (try clear hb2); (try clear hk); (try clear hi); (try clear ho0)) | ((with_reducible refine gate_dst (N := 13) rfl ?_); refine box_event ?hg (N := 13) ?hd (cs := #[.int .i64 0, .slice none 0 0]) (t := 27) ?hr ?_; (case hd => rfl); (case hg => rfl); (case hr => first | (go_simp; done) | (go_simp; rfl)); intro gb281 hg w63 hbox hb; replace HO271 := Aside0.mk (Kd.V_below (Kd.V_elderB (upV HO271.out) gb281 (Nat.le_of_eq hg.symm)) hb); replace HO275 := Aside0.mk (Kd.V_below (Kd.V_elderB (upV HO275.out) gb281 (Nat.le_of_eq hg.symm)) hb); replace HO279 := Aside0.mk (Kd.S_below (by (with_reducible repeat (first | apply Kd.S_alloc | apply Kd.S_drewN | apply Kd.S_drew)); exact HO279.out) hb); have BK281 := Aside0.mk (hbox); have GW281 := Aside0.mk ((by rw [hg]; exact (below_size (upB2 HB.out GE267.out GE268.out)) : w.heap.size ≤ gb281)); have GE281 := Aside0.mk ((by rw [hg]; exact (below_size (upB2 HB.out GE267.out GE268.out)) : w.heap.size ≤ gb281)); replace HB := Aside0.mk (below_step (upB2 HB.out GE267.out GE268.out) hb); have NB267_281 := Aside0.mk ((by rw [hg]; exact Nat.ne_of_lt (blk_lt (upK BK267.out)) : gb267 ≠ gb281)); have NB281_267 := Aside0.mk ((by rw [hg]; exact Nat.ne_of_gt (blk_lt (upK BK267.out)) : gb281 ≠ gb267)); replace BK267 := Aside0.mk (blk_below (upK BK267.out) hb); have NB268_281 := Aside0.mk ((by rw [hg]; exact Nat.ne_of_lt (blk_lt (upK BK268.out)) : gb268 ≠ gb281)); have NB281_268 := Aside0.mk ((by rw [hg]; exact Nat.ne_of_gt (blk_lt (upK BK268.out)) : gb281 ≠ gb268)); replace BK268 := Aside0.mk (blk_below (upK BK268.out) hb); clear hb hbox hg; have hnb64 := NB281_267.out; have hnc64 := NB267_281.out; have hnb65 := NB281_268.out; have hnc65 := NB268_281.out; obtain ⟨hcz66_0, hcz66_1, hfz66_0, hfz66_1⟩ := cells2 BK281.out; obtain ⟨Ao67, co67, eo67⟩ := Kd.S_slice HO279.out; subst eo67; obtain ⟨hcz68_0, hfz68_0⟩ := cells1 BK267.out) | ((with_reducible refine gate_callee (f := 15) rfl ?_); refine goesL_ (some 30) rfl rfl Try.func15 (by kernel_rfl) rfl #[.agg #[.slice Ao55 t269.length co55], .int .i64 a1] rfl argA ?_; (with_reducible refine (plinthref25_Prove.calls k _ _ t269 a1 t282 t283 t286 _ ?side1 ?side2 A10.out).mono ?_); (case side1 => refine (Kd.V_reads' (e := 40) (base := w.heap.size) (ok := fun k_ => (((k_ ≠ gb267 ∧ k_ ≠ gb268) ∧ some k_ ≠ (.slice Ao67 t277.length co67 : Value).ownBlock) ∧ k_ ≠ gb281)) (n := t269.length) (c := co55) ?_).2.2; exact (by refine upV ?_; exact (fV2 (Kd.V_mono HO271.out (fun k_ hk => (⟨hk, hk.2⟩ : _ ∧ k_ ≠ gb281)))))); (case side2 => exact (Kd.V_reads' HO271.out).2.1); rintro e w69 ⟨v284, rfl, ho0, hb⟩; refine ⟨_, rfl, ?_⟩; replace HO271 := Aside0.mk (Kd.V_elder' (by refine upV ?_; exact (fV2 (Kd.V_mono HO271.out (fun k_ hk => (⟨hk, hk.2⟩ : _ ∧ k_ ≠ gb281))))) (Kd.S_base ho0) hb); replace HO275 := Aside0.mk (Kd.V_elder' (by refine upV ?_; exact (fV2 (Kd.V_mono HO275.out (fun k_ hk => (⟨hk, hk.2⟩ : _ ∧ k_ ≠ gb281))))) (Kd.S_base ho0) hb); have HO285 := Aside0.mk (Kd.S_lower (Kd.S_new' ho0 (Kd.S_lt (by (with_reducible repeat (first | apply Kd.S_alloc | apply Kd.S_drewN | apply Kd.S_drew)); exact (Kd.S_mono (Kd.S_far (p := ⟨gb281, 1, none⟩) (Kd.S_far (p := ⟨gb281, 0, none⟩) (Kd.S_types HO279.out BK281.out (by decide)) (fun _ hk => hk.2) (.int .i64 t276)) (fun _ hk => hk.2) (.slice Ao67 t277.length co67)) (fun _ h_ => h_.1))))) (below_size (upB3 HB.out GE267.out GE268.out GE281.out))); replace HO279 := Aside0.mk (Kd.S_elder' (by (with_reducible repeat (first | apply Kd.S_alloc | apply Kd.S_drewN | apply Kd.S_drew)); exact (Kd.S_mono (Kd.S_far (p := ⟨gb281, 1, none⟩) (Kd.S_far (p := ⟨gb281, 0, none⟩) (Kd.S_types HO279.out BK281.out (by decide)) (fun _ hk => hk.2) (.int .i64 t276)) (fun _ hk => hk.2) (.slice Ao67 t277.length co67)) (fun _ h_ => h_.1))) (Kd.S_base ho0) hb); replace BK267 := Aside0.mk (blk_below (g := gb267) (o := .cells #[.slice Ao55 t269.length co55] 24 (0, 0)) (by refine upK ?_; refine blk_far ?_ NB267_281.out _; refine upK ?_; refine blk_far ?_ NB267_281.out _; refine upK ?_; exact BK267.out) hb); replace BK268 := Aside0.mk (blk_below (g := gb268) (o := .cells #[.int .i64 t272, .slice Ao58 t273.length co58] 27 (0, 0)) (by refine upK ?_; refine blk_far ?_ NB268_281.out _; refine upK ?_; refine blk_far ?_ NB268_281.out _; refine upK ?_; exact BK268.out) hb); replace BK281 := Aside0.mk (blk_below (g := gb281) (o := .cells #[.int .i64 t276, .slice Ao67 t277.length co67] 27 (0, 0)) (by refine upK ?_; refine blk_put (cs := #[.int .i64 t276, .slice none 0 0]) ?_ 1 _ rfl; refine upK ?_; refine blk_put (cs := #[.int .i64 0, .slice none 0 0]) ?_ 0 _ rfl; refine upK ?_; exact BK281.out) hb); replace HB := Aside0.mk (below_step (upB3 HB.out GE267.out GE268.out GE281.out) hb); (try clear hb); (try clear hb2); (try clear hk); (try clear hi); (try clear ho0)) | ((with_reducible refine gate_dst (N := 15) rfl ?_); refine box_event ?hg (N := 15) ?hd (cs := #[.int .i64 0, .slice none 0 0]) (t := 27) ?hr ?_; (case hd => rfl); (case hg => rfl); (case hr => first | (go_simp; done) | (go_simp; rfl)); intro gb287 hg w70 hbox hb; replace HO271 := Aside0.mk (Kd.V_below (Kd.V_elderB (upV HO271.out) gb287 (Nat.le_of_eq hg.symm)) hb); replace HO275 := Aside0.mk (Kd.V_below (Kd.V_elderB (upV HO275.out) gb287 (Nat.le_of_eq hg.symm)) hb); replace HO279 := Aside0.mk (Kd.S_below (by (with_reducible repeat (first | apply Kd.S_alloc | apply Kd.S_drewN | apply Kd.S_drew)); exact HO279.out) hb); replace HO285 := Aside0.mk (Kd.S_below (by (with_reducible repeat (first | apply Kd.S_alloc | apply Kd.S_drewN | apply Kd.S_drew)); exact HO285.out) hb); have BK287 := Aside0.mk (hbox); have GW287 := Aside0.mk ((by rw [hg]; exact (below_size (upB3 HB.out GE267.out GE268.out GE281.out)) : w.heap.size ≤ gb287)); have GE287 := Aside0.mk ((by rw [hg]; exact (below_size (upB3 HB.out GE267.out GE268.out GE281.out)) : w.heap.size ≤ gb287)); replace HB := Aside0.mk (below_step (upB3 HB.out GE267.out GE268.out GE281.out) hb); have NB267_287 := Aside0.mk ((by rw [hg]; exact Nat.ne_of_lt (blk_lt (upK BK267.out)) : gb267 ≠ gb287)); have NB287_267 := Aside0.mk ((by rw [hg]; exact Nat.ne_of_gt (blk_lt (upK BK267.out)) : gb287 ≠ gb267)); replace BK267 := Aside0.mk (blk_below (upK BK267.out) hb); have NB268_287 := Aside0.mk ((by rw [hg]; exact Nat.ne_of_lt (blk_lt (upK BK268.out)) : gb268 ≠ gb287)); have NB287_268 := Aside0.mk ((by rw [hg]; exact Nat.ne_of_gt (blk_lt (upK BK268.out)) : gb287 ≠ gb268)); replace BK268 := Aside0.mk (blk_below (upK BK268.out) hb); have NB281_287 := Aside0.mk ((by rw [hg]; exact Nat.ne_of_lt (blk_lt (upK BK281.out)) : gb281 ≠ gb287)); have NB287_281 := Aside0.mk ((by rw [hg]; exact Nat.ne_of_gt (blk_lt (upK BK281.out)) : gb287 ≠ gb281)); replace BK281 := Aside0.mk (blk_below (upK BK281.out) hb); clear hb hbox hg; have hnb71 := NB287_267.out; have hnc71 := NB267_287.out; have hnb72 := NB287_268.out; have hnc72 := NB268_287.out; have hnb73 := NB287_281.out; have hnc73 := NB281_287.out; obtain ⟨hcz74_0, hcz74_1, hfz74_0, hfz74_1⟩ := cells2 BK287.out; obtain ⟨Ao75, co75, eo75⟩ := Kd.S_slice HO285.out; subst eo75))
    have n0_ : Aside0 (Kd.V (Kd.slice 25 (Kd.int .u32)) 40 ((w70.setCell ⟨gb287, 0, none⟩ (.int .i64 t282)).setCell ⟨gb287, 1, none⟩ (.slice Ao75 t283.length co75)) w.heap.size (fun k_ => some k_ ≠ (.slice Ao67 t277.length co67 : Value).ownBlock ∧ some k_ ≠ (.slice Ao75 t283.length co75 : Value).ownBlock ∧ k_ ≠ gb267 ∧ k_ ≠ gb268 ∧ k_ ≠ gb281 ∧ k_ ≠ gb287) (.slice Ao55 t269.length co55) t269) := ⟨by refine upV ?_; exact Kd.V_mono (garV2 (g := gb287) (Kd.V_mono HO271.out (fun k_ hk => (⟨hk, hk.2⟩ : _ ∧ k_ ≠ gb287))) 0 (.int .i64 t282) 1 (.slice Ao75 t283.length co75)) (fun _ hk => ⟨hk.1.1.1.1.2, ⟨hk.1.1.2, ⟨hk.1.1.1.1.1.1, ⟨hk.1.1.1.1.1.2, ⟨hk.1.1.1.2, hk.1.2⟩⟩⟩⟩⟩)⟩
    have n1_ : Aside0 (Kd.V (Kd.slice 25 (Kd.int .u32)) 40 ((w70.setCell ⟨gb287, 0, none⟩ (.int .i64 t282)).setCell ⟨gb287, 1, none⟩ (.slice Ao75 t283.length co75)) w.heap.size (fun k_ => some k_ ≠ (.slice Ao67 t277.length co67 : Value).ownBlock ∧ some k_ ≠ (.slice Ao75 t283.length co75 : Value).ownBlock ∧ k_ ≠ gb267 ∧ k_ ≠ gb268 ∧ k_ ≠ gb281 ∧ k_ ≠ gb287) (.slice Ao58 t273.length co58) t273) := ⟨by refine upV ?_; exact Kd.V_mono (garV2 (g := gb287) (Kd.V_mono HO275.out (fun k_ hk => (⟨hk, hk.2⟩ : _ ∧ k_ ≠ gb287))) 0 (.int .i64 t282) 1 (.slice Ao75 t283.length co75)) (fun _ hk => ⟨hk.1.1.1.1.2, ⟨hk.1.1.2, ⟨hk.1.1.1.1.1.1, ⟨hk.1.1.1.1.1.2, ⟨hk.1.1.1.2, hk.1.2⟩⟩⟩⟩⟩)⟩
    have n2_ : Aside0 (Kd.S (Kd.slice 25 (Kd.int .u32)) 40 ((w70.setCell ⟨gb287, 0, none⟩ (.int .i64 t282)).setCell ⟨gb287, 1, none⟩ (.slice Ao75 t283.length co75)) w.heap.size (fun k_ => some k_ ≠ (.slice Ao75 t283.length co75 : Value).ownBlock) (.slice Ao67 t277.length co67) t277) := ⟨by (with_reducible repeat (first | apply Kd.S_alloc | apply Kd.S_drewN | apply Kd.S_drew)); exact Kd.S_mono (Kd.S_far (p := ⟨gb287, 1, none⟩) (Kd.S_far (p := ⟨gb287, 0, none⟩) (Kd.S_types HO279.out BK287.out (by decide)) (fun _ hk => hk.2) (.int .i64 t282)) (fun _ hk => hk.2) (.slice Ao75 t283.length co75)) (fun _ hk => hk.1.2)⟩
    have n3_ : Aside0 (Kd.S (Kd.slice 25 (Kd.int .u32)) 40 ((w70.setCell ⟨gb287, 0, none⟩ (.int .i64 t282)).setCell ⟨gb287, 1, none⟩ (.slice Ao75 t283.length co75)) w.heap.size (fun k_ => some k_ ≠ (.slice Ao67 t277.length co67 : Value).ownBlock) (.slice Ao75 t283.length co75) t283) := ⟨by (with_reducible repeat (first | apply Kd.S_alloc | apply Kd.S_drewN | apply Kd.S_drew)); exact Kd.S_mono (Kd.S_far (p := ⟨gb287, 1, none⟩) (Kd.S_far (p := ⟨gb287, 0, none⟩) (Kd.S_types HO285.out BK287.out (by decide)) (fun _ hk => hk.2) (.int .i64 t282)) (fun _ hk => hk.2) (.slice Ao75 t283.length co75)) (fun _ hk => hk.1.2)⟩
    have n4_ : Aside0 (((w70.setCell ⟨gb287, 0, none⟩ (.int .i64 t282)).setCell ⟨gb287, 1, none⟩ (.slice Ao75 t283.length co75)).heap[gb267]? = some (.cells #[.slice Ao55 t269.length co55] 24 (0, 0))) := ⟨by refine upK ?_; refine blk_far ?_ NB267_287.out _; refine upK ?_; refine blk_far ?_ NB267_287.out _; refine upK ?_; exact BK267.out⟩
    have n5_ : Aside0 (((w70.setCell ⟨gb287, 0, none⟩ (.int .i64 t282)).setCell ⟨gb287, 1, none⟩ (.slice Ao75 t283.length co75)).heap[gb268]? = some (.cells #[.int .i64 t272, .slice Ao58 t273.length co58] 27 (0, 0))) := ⟨by refine upK ?_; refine blk_far ?_ NB268_287.out _; refine upK ?_; refine blk_far ?_ NB268_287.out _; refine upK ?_; exact BK268.out⟩
    have n6_ : Aside0 (((w70.setCell ⟨gb287, 0, none⟩ (.int .i64 t282)).setCell ⟨gb287, 1, none⟩ (.slice Ao75 t283.length co75)).heap[gb281]? = some (.cells #[.int .i64 t276, .slice Ao67 t277.length co67] 27 (0, 0))) := ⟨by refine upK ?_; refine blk_far ?_ NB281_287.out _; refine upK ?_; refine blk_far ?_ NB281_287.out _; refine upK ?_; exact BK281.out⟩
    have n7_ : Aside0 (((w70.setCell ⟨gb287, 0, none⟩ (.int .i64 t282)).setCell ⟨gb287, 1, none⟩ (.slice Ao75 t283.length co75)).heap[gb287]? = some (.cells #[.int .i64 t282, .slice Ao75 t283.length co75] 27 (0, 0))) := ⟨by refine upK ?_; refine blk_put (cs := #[.int .i64 t282, .slice none 0 0]) ?_ 1 _ rfl; refine upK ?_; refine blk_put (cs := #[.int .i64 0, .slice none 0 0]) ?_ 0 _ rfl; refine upK ?_; exact BK287.out⟩
    have n8_ : Aside0 (Below w.heap.size w ((w70.setCell ⟨gb287, 0, none⟩ (.int .i64 t282)).setCell ⟨gb287, 1, none⟩ (.slice Ao75 t283.length co75))) := ⟨upB4 HB.out GE267.out GE268.out GE281.out GE287.out⟩
    (try clear HO271); (try clear HO275); (try clear HO279); (try clear HO285); (try clear BK267); (try clear BK268); (try clear BK281); (try clear BK287); (try clear HB)
    generalize ((w70.setCell ⟨gb287, 0, none⟩ (.int .i64 t282)).setCell ⟨gb287, 1, none⟩ (.slice Ao75 t283.length co75)) = w76 at n0_ n1_ n2_ n3_ n4_ n5_ n6_ n7_ n8_ ⊢
    have HO271 := n0_
    have HO275 := n1_
    have HO279 := n2_
    have HO285 := n3_
    have BK267 := n4_
    have BK268 := n5_
    have BK281 := n6_
    have BK287 := n7_
    have HB := n8_
    clear n0_ n1_ n2_ n3_ n4_ n5_ n6_ n7_ n8_
    replace HO271 := Aside0.mk (Kd.V_drew HO271.out)
    replace HO275 := Aside0.mk (Kd.V_drew HO275.out)
    replace HO279 := Aside0.mk (Kd.S_drew HO279.out)
    replace HO285 := Aside0.mk (Kd.S_drew HO285.out)
    replace BK267 := Aside0.mk (blk_drew BK267.out)
    replace BK268 := Aside0.mk (blk_drew BK268.out)
    replace BK281 := Aside0.mk (blk_drew BK281.out)
    replace BK287 := Aside0.mk (blk_drew BK287.out)
    replace HB := Aside0.mk (below_drew1 HB.out)
    refine start_ (n := 25) (S := fun w' => w'.cell? ⟨gb281, 0, none⟩ = some (.int .i64 t276) ∧ w'.cell? ⟨gb281, 1, none⟩ = some (.slice Ao67 t277.length co67) ∧ w'.cell? ⟨gb287, 0, none⟩ = some (.int .i64 t282) ∧ w'.cell? ⟨gb287, 1, none⟩ = some (.slice Ao75 t283.length co75) ∧ w'.cell? ⟨gb268, 0, none⟩ = some (.int .i64 t272) ∧ w'.cell? ⟨gb268, 1, none⟩ = some (.slice Ao58 t273.length co58)) (ds := []) (Array.replicate 25 false) (by kernel_rfl) rfl rfl ⟨(blk_cell BK281.out 0).trans rfl, (blk_cell BK281.out 1).trans rfl, (blk_cell BK287.out 0).trans rfl, (blk_cell BK287.out 1).trans rfl, (blk_cell BK268.out 0).trans rfl, (blk_cell BK268.out 1).trans rfl⟩ (fun hHeld => ?_); refine with_tabW plinthlaw25_TreeProves.tab4 plinthlaw25_TreeProves.bits4 (fun HT_ HW_ => ?_)
    generalize w76.drew = w77 at HO271 HO275 HO279 HO285 BK267 BK268 BK281 BK287 HB hHeld ⊢
    refine tM 0 33 HT_.out HW_.out hHeld ?_; refine tM 1 34 HT_.out HW_.out hHeld ?_
    refine oM 2 35 HT_.out (fun K hK => ?_)
    refine gM Try.func16 #[.agg #[.int .i64 t276, .slice Ao67 t277.length co67], .agg #[.int .i64 t282, .slice Ao75 t283.length co75]] ?_
    with_reducible refine (plinthref25_SameProof.calls k t276 _ _ t277 t282 _ _ t283 true _ ?side1 ?side2 ?side3 ?side4 A11.out).mono ?_
    (case side1 => exact upC ((Kd.S_reads' HO279.out).2.2))
    (case side2 => exact (Kd.S_reads' HO279.out).2.1)
    (case side3 => exact upC ((Kd.S_reads' HO285.out).2.2))
    (case side4 => exact (Kd.S_reads' HO285.out).2.1)
    rintro e w78 ⟨rfl, hb⟩
    refine ⟨_, rfl, ?_⟩
    replace HO271 := Aside0.mk (Kd.V_below (upV HO271.out) hb)
    replace HO275 := Aside0.mk (Kd.V_below (upV HO275.out) hb)
    replace HO279 := Aside0.mk (Kd.S_below (by (with_reducible repeat (first | apply Kd.S_alloc | apply Kd.S_drewN | apply Kd.S_drew)); exact HO279.out) hb)
    replace HO285 := Aside0.mk (Kd.S_below (by (with_reducible repeat (first | apply Kd.S_alloc | apply Kd.S_drewN | apply Kd.S_drew)); exact HO285.out) hb)
    replace BK267 := Aside0.mk (blk_below (upK BK267.out) hb)
    replace BK268 := Aside0.mk (blk_below (upK BK268.out) hb)
    replace BK281 := Aside0.mk (blk_below (upK BK281.out) hb)
    replace BK287 := Aside0.mk (blk_below (upK BK287.out) hb)
    replace HB := Aside0.mk (below_step (upB4 HB.out GE267.out GE268.out GE281.out GE287.out) hb)
    (try clear hb); (try clear hb2); (try clear hk); (try clear hi)
    refine hK.out _ _ ⟨(blk_cell BK281.out 0).trans rfl, (blk_cell BK281.out 1).trans rfl, (blk_cell BK287.out 0).trans rfl, (blk_cell BK287.out 1).trans rfl, (blk_cell BK268.out 0).trans rfl, (blk_cell BK268.out 1).trans rfl⟩ (fun hHeld => ?_)
    clear hK K
    refine nM 35 ?_; refine pM 3 36 HT_.out ?_; refine pM 4 37 HT_.out ?_; refine pM 5 38 HT_.out ?_; refine pM 6 39 HT_.out ?_; refine pM 7 40 HT_.out ?_; refine pM 8 41 HT_.out ?_; refine pM 9 42 HT_.out ?_; refine pM 10 43 HT_.out ?_; refine pM 11 44 HT_.out ?_; refine pM 14 47 HT_.out ?_; refine pM 15 48 HT_.out ?_; refine pM 16 49 HT_.out ?_; refine tM 12 45 HT_.out HW_.out hHeld ?_; refine tM 17 50 HT_.out HW_.out hHeld ?_
    refine oM 13 46 HT_.out (fun K hK => ?_)
    refine gM Try.func17 #[.int .u32 a2, .int .i64 a3, .int .u32 a4, .agg #[.int .i64 t272, .slice Ao58 t273.length co58]] ?_
    with_reducible refine (tree_Proved.calls k a2 a3 a4 t272 _ _ t273 t289 _ ?side1 ?side2 A14.out).mono ?_
    (case side1 => exact upC ((Kd.V_reads' HO275.out).2.2))
    (case side2 => exact (Kd.V_reads' HO275.out).2.1)
    rintro e w79 ⟨rfl, hb⟩
    refine ⟨_, rfl, ?_⟩
    replace HO271 := Aside0.mk (Kd.V_below (upV HO271.out) hb)
    replace HO275 := Aside0.mk (Kd.V_below (upV HO275.out) hb)
    replace HO279 := Aside0.mk (Kd.S_below (by (with_reducible repeat (first | apply Kd.S_alloc | apply Kd.S_drewN | apply Kd.S_drew)); exact HO279.out) hb)
    replace HO285 := Aside0.mk (Kd.S_below (by (with_reducible repeat (first | apply Kd.S_alloc | apply Kd.S_drewN | apply Kd.S_drew)); exact HO285.out) hb)
    replace BK267 := Aside0.mk (blk_below (upK BK267.out) hb)
    replace BK268 := Aside0.mk (blk_below (upK BK268.out) hb)
    replace BK281 := Aside0.mk (blk_below (upK BK281.out) hb)
    replace BK287 := Aside0.mk (blk_below (upK BK287.out) hb)
    replace HB := Aside0.mk (below_step (upB4 HB.out GE267.out GE268.out GE281.out GE287.out) hb)
    (try clear hb); (try clear hb2); (try clear hk); (try clear hi)
    refine hK.out _ _ ⟨(blk_cell BK281.out 0).trans rfl, (blk_cell BK281.out 1).trans rfl, (blk_cell BK287.out 0).trans rfl, (blk_cell BK287.out 1).trans rfl, (blk_cell BK268.out 0).trans rfl, (blk_cell BK268.out 1).trans rfl⟩ (fun hHeld => ?_)
    clear hK K
    refine nM 46 ?_
    refine oM 18 51 HT_.out (fun K hK => ?_)
    refine gM Try.func18 #[.int .u32 a2, .int .i64 a3, .int .u32 a4, .agg #[.int .i64 t272, .slice Ao58 t273.length co58]] ?_
    with_reducible refine (plinthref25_Proved.calls k a2 a3 a4 t272 _ _ t273 t290 _ ?side1 ?side2 A15.out).mono ?_
    (case side1 => exact upC ((Kd.V_reads' HO275.out).2.2))
    (case side2 => exact (Kd.V_reads' HO275.out).2.1)
    rintro e w80 ⟨rfl, hb⟩
    refine ⟨_, rfl, ?_⟩
    replace HO271 := Aside0.mk (Kd.V_below (upV HO271.out) hb)
    replace HO275 := Aside0.mk (Kd.V_below (upV HO275.out) hb)
    replace HO279 := Aside0.mk (Kd.S_below (by (with_reducible repeat (first | apply Kd.S_alloc | apply Kd.S_drewN | apply Kd.S_drew)); exact HO279.out) hb)
    replace HO285 := Aside0.mk (Kd.S_below (by (with_reducible repeat (first | apply Kd.S_alloc | apply Kd.S_drewN | apply Kd.S_drew)); exact HO285.out) hb)
    replace BK267 := Aside0.mk (blk_below (upK BK267.out) hb)
    replace BK268 := Aside0.mk (blk_below (upK BK268.out) hb)
    replace BK281 := Aside0.mk (blk_below (upK BK281.out) hb)
    replace BK287 := Aside0.mk (blk_below (upK BK287.out) hb)
    replace HB := Aside0.mk (below_step (upB4 HB.out GE267.out GE268.out GE281.out GE287.out) hb)
    (try clear hb); (try clear hb2); (try clear hk); (try clear hi)
    refine hK.out _ _ ⟨(blk_cell BK281.out 0).trans rfl, (blk_cell BK281.out 1).trans rfl, (blk_cell BK287.out 0).trans rfl, (blk_cell BK287.out 1).trans rfl, (blk_cell BK268.out 0).trans rfl, (blk_cell BK268.out 1).trans rfl⟩ (fun hHeld => ?_)
    clear hK K
    refine nM 51 ?_; refine pM 19 52 HT_.out ?_; refine pM 20 53 HT_.out ?_; refine pM 21 54 HT_.out ?_; refine uM 22 55 HT_.out ?_; refine pM 23 56 HT_.out ?_; refine pM 24 12 HT_.out ?_
    refine done_ (done_of HT_.out (by kernel_rfl)) ?_
    try go_wp2
    go_ret
    exact ⟨by first | rfl | (simp [errW_none, errW_some] <;> rfl) | (simp [*, errW_none, errW_some] <;> rfl), upB4 HB.out GE267.out GE268.out GE281.out GE287.out⟩
  ·rw [if_neg c13] at H
   have c13b0 : (t280 == t286) = false := beq_eq_false_iff_ne.mpr c13
   have c13b1 : (t280 != t286) = true := bne_iff_ne.mpr c13
   obtain rfl := Option.some.inj H
   go_enter Try.func3, Try.ntmps3
   try go_wp2_with (first | ((with_reducible refine gate_dst (N := 6) rfl ?_); refine box_event ?hg (N := 6) ?hd (cs := #[.slice A0_0 l0_0.length c0_0]) (t := 24) ?hr ?_; (case hd => rfl); (case hg => rfl); (case hr => first | (go_simp; done) | (go_simp; rfl)); intro gb267 hg w81 hbox hb; have BK267 := Aside0.mk (hbox); have GW267 := Aside0.mk ((by rw [hg]; exact (below_size (upB0 HB.out)) : w.heap.size ≤ gb267)); have GE267 := Aside0.mk ((by rw [hg]; exact (below_size (upB0 HB.out)) : w.heap.size ≤ gb267)); replace HB := Aside0.mk (below_step (upB0 HB.out) hb); clear hb hbox hg) | ((with_reducible refine gate_dst (N := 11) rfl ?_); refine box_event ?hg (N := 11) ?hd (cs := #[.int .i64 a5_0, .slice A5_1 l5_1.length c5_1]) (t := 27) ?hr ?_; (case hd => rfl); (case hg => rfl); (case hr => first | (go_simp; done) | (go_simp; rfl)); intro gb268 hg w82 hbox hb; have BK268 := Aside0.mk (hbox); have GW268 := Aside0.mk ((by rw [hg]; exact (below_size (upB1 HB.out GE267.out)) : w.heap.size ≤ gb268)); have GE268 := Aside0.mk ((by rw [hg]; exact (below_size (upB1 HB.out GE267.out)) : w.heap.size ≤ gb268)); replace HB := Aside0.mk (below_step (upB1 HB.out GE267.out) hb); have NB267_268 := Aside0.mk ((by rw [hg]; exact Nat.ne_of_lt (blk_lt (upK BK267.out)) : gb267 ≠ gb268)); have NB268_267 := Aside0.mk ((by rw [hg]; exact Nat.ne_of_gt (blk_lt (upK BK267.out)) : gb268 ≠ gb267)); replace BK267 := Aside0.mk (blk_below (upK BK267.out) hb); clear hb hbox hg))
   replace BK267 := Aside0.mk (blk_drew BK267.out)
   replace BK268 := Aside0.mk (blk_drew BK268.out)
   replace HB := Aside0.mk (below_drew1 HB.out)
   refine start_ (n := 6) (S := fun w' => w'.cell? ⟨gb267, 0, none⟩ = some (.slice A0_0 l0_0.length c0_0) ∧ w'.cell? ⟨gb268, 0, none⟩ = some (.int .i64 a5_0) ∧ w'.cell? ⟨gb268, 1, none⟩ = some (.slice A5_1 l5_1.length c5_1)) (ds := [4, 5]) (Array.replicate 6 false) (by kernel_rfl) rfl rfl ⟨(blk_cell BK267.out 0).trans rfl, (blk_cell BK268.out 0).trans rfl, (blk_cell BK268.out 1).trans rfl⟩ (fun hHeld => ?_)
   generalize w82.drew = w83 at BK267 BK268 HB hHeld ⊢
   refine take_ (i := 0) (N := some 17) (v := ?_) (a' := ?_) #[true, false, false, false, false, false] rfl rfl (by kernel_rfl) (fun _ _ _ h => h) (Or.inl ⟨by rfl, ?_⟩) hHeld ?_ ?_
   rotate_left
   ·rintro w' ⟨s0, s1, s2⟩
    go_simp
    with_reducible rfl
   rotate_left
   ·simp only [Act.put, List.setIfInBounds_toArray, List.set_cons_zero, List.set_cons_succ, i64_w, i32_w]
    rfl
   refine take_ (i := 2) (N := some 19) (v := ?_) (a' := ?_) #[true, false, true, false, false, false] rfl rfl (by kernel_rfl) (fun _ _ _ h => h) (Or.inl ⟨by rfl, ?_⟩) hHeld ?_ ?_
   rotate_left
   ·rintro w' ⟨s0, s1, s2⟩
    go_simp
    with_reducible rfl
   rotate_left
   ·simp only [Act.put, List.setIfInBounds_toArray, List.set_cons_zero, List.set_cons_succ, i64_w, i32_w]
    rfl
   refine one_ (i := 1) (N := some 18) #[true, true, true, false, false, false] rfl rfl (by kernel_rfl) (by decide) (fun K hK => ?_)
   refine gM Try.func12 #[.agg #[.slice A0_0 l0_0.length c0_0]] ?_
   with_reducible refine (plinthlaw25_cut.calls k (fun k_ => k_ < w.heap.size) _ _ l0_0 t269 _ ?side1 A7.out).mono ?_
   (case side1 => exact Kd.V_mk HC0_0.out (Kd.F_below (Kd.C_F (Kd.heap_slice 25 (Kd.heap_int .u32)) HR0_0.out) (upB2 HB.out GE267.out GE268.out)))
   rintro e w84 ⟨v270, rfl, ho0, hb⟩
   refine ⟨_, rfl, ?_⟩
   have HO271 := Aside0.mk (Kd.V_lower (Kd.V_mono (ok' := fun k_ => k_ ≠ gb267 ∧ k_ ≠ gb268) ho0 (fun k_ hk_ => ⟨Or.elim hk_ (fun hs_ => fun e_ => Nat.not_le.2 hs_ (by rw [e_]; exact GW267.out)) (fun hn_ => (Kd.freshB (upK BK267.out) k_ hn_)), Or.elim hk_ (fun hs_ => fun e_ => Nat.not_le.2 hs_ (by rw [e_]; exact GW268.out)) (fun hn_ => (Kd.freshB (upK BK268.out) k_ hn_))⟩)) (below_size (upB2 HB.out GE267.out GE268.out)))
   replace BK267 := Aside0.mk (blk_below (upK BK267.out) hb)
   replace BK268 := Aside0.mk (blk_below (upK BK268.out) hb)
   replace HB := Aside0.mk (below_step (upB2 HB.out GE267.out GE268.out) hb)
   (try clear hb); (try clear hb2); (try clear hk); (try clear hi); (try clear ho0)
   refine hK.out _ _ ⟨(blk_cell BK267.out 0).trans rfl, (blk_cell BK268.out 0).trans rfl, (blk_cell BK268.out 1).trans rfl⟩ (fun hHeld => ?_)
   clear hK K
   refine nM 18 ?_
   refine one_ (i := 3) (N := some 20) #[true, true, true, true, false, false] rfl rfl (by kernel_rfl) (by decide) (fun K hK => ?_)
   refine gM Try.func13 #[.agg #[.int .i64 a5_0, .slice A5_1 l5_1.length c5_1]] ?_
   with_reducible refine (plinthlaw25_light.calls k a5_0 (fun k_ => k_ < w.heap.size) _ _ l5_1 t272 t273 _ ?side1 A8.out).mono ?_
   (case side1 => exact Kd.V_mk HC5_1.out (Kd.F_below (Kd.C_F (Kd.heap_slice 25 (Kd.heap_int .u32)) HR5_1.out) (upB2 HB.out GE267.out GE268.out)))
   rintro e w85 ⟨v274, rfl, ho0, hb⟩
   refine ⟨_, rfl, ?_⟩
   replace HO271 := Aside0.mk (Kd.V_below (upV HO271.out) hb)
   have HO275 := Aside0.mk (Kd.V_lower (Kd.V_mono (ok' := fun k_ => k_ ≠ gb267 ∧ k_ ≠ gb268) ho0 (fun k_ hk_ => ⟨Or.elim hk_ (fun hs_ => fun e_ => Nat.not_le.2 hs_ (by rw [e_]; exact GW267.out)) (fun hn_ => (Kd.freshB (upK BK267.out) k_ hn_)), Or.elim hk_ (fun hs_ => fun e_ => Nat.not_le.2 hs_ (by rw [e_]; exact GW268.out)) (fun hn_ => (Kd.freshB (upK BK268.out) k_ hn_))⟩)) (below_size (upB2 HB.out GE267.out GE268.out)))
   replace BK267 := Aside0.mk (blk_below (upK BK267.out) hb)
   replace BK268 := Aside0.mk (blk_below (upK BK268.out) hb)
   replace HB := Aside0.mk (below_step (upB2 HB.out GE267.out GE268.out) hb)
   (try clear hb); (try clear hb2); (try clear hk); (try clear hi); (try clear ho0)
   obtain ⟨Ao86, co86, eo86⟩ := Kd.V_slice HO271.out
   (first | subst eo86 | (injection eo86 with f1_ f2_ f3_; have f4_ := f1_.symm; have f5_ := f3_.symm; clear f1_ f2_ f3_; subst f4_; subst f5_))
   obtain ⟨Ao89, co89, eo89⟩ := Kd.V_slice HO275.out
   (first | subst eo89 | (injection eo89 with f1_ f2_ f3_; have f4_ := f1_.symm; have f5_ := f3_.symm; clear f1_ f2_ f3_; subst f4_; subst f5_))
   refine hK.out _ _ ⟨(blk_cell BK267.out 0).trans rfl, (blk_cell BK268.out 0).trans rfl, (blk_cell BK268.out 1).trans rfl⟩ (fun hHeld => ?_)
   clear hK K
   refine nM 20 ?_
   refine last_ (i := 4) (N := none) #[true, true, true, true, true, false] rfl rfl (by kernel_rfl) (by decide) (fun K hK => ?_)
   have hs87 : w85.cell? ⟨gb267, 0, none⟩ = some (.slice A0_0 l0_0.length c0_0) := (blk_cell BK267.out 0).trans rfl
   have hfs87 := blk_frozen BK267.out 0
   have hns87_1 := NB268_267.out
   have hms87_1 := NB267_268.out
   refine skip_ (w1 := ?_) (by rfl) rfl ?_ ?_
   rotate_left
   ·go_simp
    rfl
   refine hK.out _ _ ?_
   clear hK K
   refine last_ (i := 5) (N := none) #[true, true, true, true, true, true] rfl rfl (by kernel_rfl) (by decide) (fun K hK => ?_)
   have hs88 : w85.cell? ⟨gb268, 0, none⟩ = some (.int .i64 a5_0) := (blk_cell BK268.out 0).trans rfl
   have hfs88 := blk_frozen BK268.out 0
   have hns88_0 := NB267_268.out
   have hms88_0 := NB268_267.out
   have hs90 : w85.cell? ⟨gb268, 1, none⟩ = some (.slice A5_1 l5_1.length c5_1) := (blk_cell BK268.out 1).trans rfl
   have hfs90 := blk_frozen BK268.out 1
   have hns90_0 := NB267_268.out
   have hms90_0 := NB268_267.out
   refine skip_ (w1 := ?_) (by rfl) rfl ?_ ?_
   rotate_left
   ·go_simp
    rfl
   refine hK.out _ _ ?_
   clear hK K
   refine done_ (by kernel_rfl) ?_
   have hnb91 := NB267_268.out
   have hnc91 := NB268_267.out
   obtain ⟨hcz92_0, hfz92_0⟩ := cells1 BK267.out
   try go_wp2_with (first | ((with_reducible refine gate_callee (f := 14) rfl ?_); refine goesL_ (some 24) rfl rfl Try.func14 (by kernel_rfl) rfl #[.agg #[.slice Ao86 t269.length co86], .int .i64 a1] rfl argA ?_; (with_reducible refine (tree_Prove.calls k _ _ t269 a1 t276 t277 t280 _ ?side1 ?side2 A9.out).mono ?_); (case side1 => refine (Kd.V_reads' (e := 40) (base := w.heap.size) (ok := fun k_ => (k_ ≠ gb267 ∧ k_ ≠ gb268)) (n := t269.length) (c := co86) ?_).2.2; exact (by refine upV ?_; exact (Kd.V_mono (farV2 (g := gb268) (Kd.V_far (p := ⟨gb267, 0, none⟩) (Kd.V_mono (Kd.V_mono HO271.out (fun k_ hk => (⟨hk, hk.1⟩ : _ ∧ k_ ≠ gb267))) (fun k_ hk => (⟨hk, hk.1.2⟩ : _ ∧ k_ ≠ gb268))) (fun _ hk => hk.1.2) (.slice Ao86 t269.length co86)) 0 (.int .i64 t272) 1 (.slice Ao89 t273.length co89)) (fun _ h_ => h_.1)))); (case side2 => exact (Kd.V_reads' HO271.out).2.1); rintro e w93 ⟨v278, rfl, ho0, hb⟩; refine ⟨_, rfl, ?_⟩; replace HO271 := Aside0.mk (Kd.V_elder' (by refine upV ?_; exact (Kd.V_mono (farV2 (g := gb268) (Kd.V_far (p := ⟨gb267, 0, none⟩) (Kd.V_mono (Kd.V_mono HO271.out (fun k_ hk => (⟨hk, hk.1⟩ : _ ∧ k_ ≠ gb267))) (fun k_ hk => (⟨hk, hk.1.2⟩ : _ ∧ k_ ≠ gb268))) (fun _ hk => hk.1.2) (.slice Ao86 t269.length co86)) 0 (.int .i64 t272) 1 (.slice Ao89 t273.length co89)) (fun _ h_ => h_.1))) (Kd.S_base ho0) hb); replace HO275 := Aside0.mk (Kd.V_elder' (by refine upV ?_; exact (Kd.V_mono (farV2 (g := gb268) (Kd.V_far (p := ⟨gb267, 0, none⟩) (Kd.V_mono (Kd.V_mono HO275.out (fun k_ hk => (⟨hk, hk.1⟩ : _ ∧ k_ ≠ gb267))) (fun k_ hk => (⟨hk, hk.1.2⟩ : _ ∧ k_ ≠ gb268))) (fun _ hk => hk.1.2) (.slice Ao86 t269.length co86)) 0 (.int .i64 t272) 1 (.slice Ao89 t273.length co89)) (fun _ h_ => h_.1))) (Kd.S_base ho0) hb); have HO279 := Aside0.mk (Kd.S_lower ho0 (below_size (upB2 HB.out GE267.out GE268.out))); replace BK267 := Aside0.mk (blk_below (g := gb267) (o := .cells #[.slice Ao86 t269.length co86] 24 (0, 0)) (by refine upK ?_; refine blk_far ?_ NB267_268.out _; refine upK ?_; refine blk_far ?_ NB267_268.out _; refine upK ?_; refine blk_put (cs := #[.slice A0_0 l0_0.length c0_0]) ?_ 0 _ rfl; refine upK ?_; exact BK267.out) hb); replace BK268 := Aside0.mk (blk_below (g := gb268) (o := .cells #[.int .i64 t272, .slice Ao89 t273.length co89] 27 (0, 0)) (by refine upK ?_; refine blk_put (cs := #[.int .i64 t272, .slice A5_1 l5_1.length c5_1]) ?_ 1 _ rfl; refine upK ?_; refine blk_put (cs := #[.int .i64 a5_0, .slice A5_1 l5_1.length c5_1]) ?_ 0 _ rfl; refine upK ?_; refine blk_far ?_ NB268_267.out _; refine upK ?_; exact BK268.out) hb); replace HB := Aside0.mk (below_step (upB2 HB.out GE267.out GE268.out) hb); (try clear hb); (try clear hb2); (try clear hk); (try clear hi); (try clear ho0)) | ((with_reducible refine gate_dst (N := 13) rfl ?_); refine box_event ?hg (N := 13) ?hd (cs := #[.int .i64 0, .slice none 0 0]) (t := 27) ?hr ?_; (case hd => rfl); (case hg => rfl); (case hr => first | (go_simp; done) | (go_simp; rfl)); intro gb281 hg w94 hbox hb; replace HO271 := Aside0.mk (Kd.V_below (Kd.V_elderB (upV HO271.out) gb281 (Nat.le_of_eq hg.symm)) hb); replace HO275 := Aside0.mk (Kd.V_below (Kd.V_elderB (upV HO275.out) gb281 (Nat.le_of_eq hg.symm)) hb); replace HO279 := Aside0.mk (Kd.S_below (by (with_reducible repeat (first | apply Kd.S_alloc | apply Kd.S_drewN | apply Kd.S_drew)); exact HO279.out) hb); have BK281 := Aside0.mk (hbox); have GW281 := Aside0.mk ((by rw [hg]; exact (below_size (upB2 HB.out GE267.out GE268.out)) : w.heap.size ≤ gb281)); have GE281 := Aside0.mk ((by rw [hg]; exact (below_size (upB2 HB.out GE267.out GE268.out)) : w.heap.size ≤ gb281)); replace HB := Aside0.mk (below_step (upB2 HB.out GE267.out GE268.out) hb); have NB267_281 := Aside0.mk ((by rw [hg]; exact Nat.ne_of_lt (blk_lt (upK BK267.out)) : gb267 ≠ gb281)); have NB281_267 := Aside0.mk ((by rw [hg]; exact Nat.ne_of_gt (blk_lt (upK BK267.out)) : gb281 ≠ gb267)); replace BK267 := Aside0.mk (blk_below (upK BK267.out) hb); have NB268_281 := Aside0.mk ((by rw [hg]; exact Nat.ne_of_lt (blk_lt (upK BK268.out)) : gb268 ≠ gb281)); have NB281_268 := Aside0.mk ((by rw [hg]; exact Nat.ne_of_gt (blk_lt (upK BK268.out)) : gb281 ≠ gb268)); replace BK268 := Aside0.mk (blk_below (upK BK268.out) hb); clear hb hbox hg; have hnb95 := NB281_267.out; have hnc95 := NB267_281.out; have hnb96 := NB281_268.out; have hnc96 := NB268_281.out; obtain ⟨hcz97_0, hcz97_1, hfz97_0, hfz97_1⟩ := cells2 BK281.out; obtain ⟨Ao98, co98, eo98⟩ := Kd.S_slice HO279.out; subst eo98; obtain ⟨hcz99_0, hfz99_0⟩ := cells1 BK267.out) | ((with_reducible refine gate_callee (f := 15) rfl ?_); refine goesL_ (some 30) rfl rfl Try.func15 (by kernel_rfl) rfl #[.agg #[.slice Ao86 t269.length co86], .int .i64 a1] rfl argA ?_; (with_reducible refine (plinthref25_Prove.calls k _ _ t269 a1 t282 t283 t286 _ ?side1 ?side2 A10.out).mono ?_); (case side1 => refine (Kd.V_reads' (e := 40) (base := w.heap.size) (ok := fun k_ => (((k_ ≠ gb267 ∧ k_ ≠ gb268) ∧ some k_ ≠ (.slice Ao98 t277.length co98 : Value).ownBlock) ∧ k_ ≠ gb281)) (n := t269.length) (c := co86) ?_).2.2; exact (by refine upV ?_; exact (fV2 (Kd.V_mono HO271.out (fun k_ hk => (⟨hk, hk.2⟩ : _ ∧ k_ ≠ gb281)))))); (case side2 => exact (Kd.V_reads' HO271.out).2.1); rintro e w100 ⟨v284, rfl, ho0, hb⟩; refine ⟨_, rfl, ?_⟩; replace HO271 := Aside0.mk (Kd.V_elder' (by refine upV ?_; exact (fV2 (Kd.V_mono HO271.out (fun k_ hk => (⟨hk, hk.2⟩ : _ ∧ k_ ≠ gb281))))) (Kd.S_base ho0) hb); replace HO275 := Aside0.mk (Kd.V_elder' (by refine upV ?_; exact (fV2 (Kd.V_mono HO275.out (fun k_ hk => (⟨hk, hk.2⟩ : _ ∧ k_ ≠ gb281))))) (Kd.S_base ho0) hb); have HO285 := Aside0.mk (Kd.S_lower (Kd.S_new' ho0 (Kd.S_lt (by (with_reducible repeat (first | apply Kd.S_alloc | apply Kd.S_drewN | apply Kd.S_drew)); exact (Kd.S_mono (Kd.S_far (p := ⟨gb281, 1, none⟩) (Kd.S_far (p := ⟨gb281, 0, none⟩) (Kd.S_types HO279.out BK281.out (by decide)) (fun _ hk => hk.2) (.int .i64 t276)) (fun _ hk => hk.2) (.slice Ao98 t277.length co98)) (fun _ h_ => h_.1))))) (below_size (upB3 HB.out GE267.out GE268.out GE281.out))); replace HO279 := Aside0.mk (Kd.S_elder' (by (with_reducible repeat (first | apply Kd.S_alloc | apply Kd.S_drewN | apply Kd.S_drew)); exact (Kd.S_mono (Kd.S_far (p := ⟨gb281, 1, none⟩) (Kd.S_far (p := ⟨gb281, 0, none⟩) (Kd.S_types HO279.out BK281.out (by decide)) (fun _ hk => hk.2) (.int .i64 t276)) (fun _ hk => hk.2) (.slice Ao98 t277.length co98)) (fun _ h_ => h_.1))) (Kd.S_base ho0) hb); replace BK267 := Aside0.mk (blk_below (g := gb267) (o := .cells #[.slice Ao86 t269.length co86] 24 (0, 0)) (by refine upK ?_; refine blk_far ?_ NB267_281.out _; refine upK ?_; refine blk_far ?_ NB267_281.out _; refine upK ?_; exact BK267.out) hb); replace BK268 := Aside0.mk (blk_below (g := gb268) (o := .cells #[.int .i64 t272, .slice Ao89 t273.length co89] 27 (0, 0)) (by refine upK ?_; refine blk_far ?_ NB268_281.out _; refine upK ?_; refine blk_far ?_ NB268_281.out _; refine upK ?_; exact BK268.out) hb); replace BK281 := Aside0.mk (blk_below (g := gb281) (o := .cells #[.int .i64 t276, .slice Ao98 t277.length co98] 27 (0, 0)) (by refine upK ?_; refine blk_put (cs := #[.int .i64 t276, .slice none 0 0]) ?_ 1 _ rfl; refine upK ?_; refine blk_put (cs := #[.int .i64 0, .slice none 0 0]) ?_ 0 _ rfl; refine upK ?_; exact BK281.out) hb); replace HB := Aside0.mk (below_step (upB3 HB.out GE267.out GE268.out GE281.out) hb); (try clear hb); (try clear hb2); (try clear hk); (try clear hi); (try clear ho0)) | ((with_reducible refine gate_dst (N := 15) rfl ?_); refine box_event ?hg (N := 15) ?hd (cs := #[.int .i64 0, .slice none 0 0]) (t := 27) ?hr ?_; (case hd => rfl); (case hg => rfl); (case hr => first | (go_simp; done) | (go_simp; rfl)); intro gb287 hg w101 hbox hb; replace HO271 := Aside0.mk (Kd.V_below (Kd.V_elderB (upV HO271.out) gb287 (Nat.le_of_eq hg.symm)) hb); replace HO275 := Aside0.mk (Kd.V_below (Kd.V_elderB (upV HO275.out) gb287 (Nat.le_of_eq hg.symm)) hb); replace HO279 := Aside0.mk (Kd.S_below (by (with_reducible repeat (first | apply Kd.S_alloc | apply Kd.S_drewN | apply Kd.S_drew)); exact HO279.out) hb); replace HO285 := Aside0.mk (Kd.S_below (by (with_reducible repeat (first | apply Kd.S_alloc | apply Kd.S_drewN | apply Kd.S_drew)); exact HO285.out) hb); have BK287 := Aside0.mk (hbox); have GW287 := Aside0.mk ((by rw [hg]; exact (below_size (upB3 HB.out GE267.out GE268.out GE281.out)) : w.heap.size ≤ gb287)); have GE287 := Aside0.mk ((by rw [hg]; exact (below_size (upB3 HB.out GE267.out GE268.out GE281.out)) : w.heap.size ≤ gb287)); replace HB := Aside0.mk (below_step (upB3 HB.out GE267.out GE268.out GE281.out) hb); have NB267_287 := Aside0.mk ((by rw [hg]; exact Nat.ne_of_lt (blk_lt (upK BK267.out)) : gb267 ≠ gb287)); have NB287_267 := Aside0.mk ((by rw [hg]; exact Nat.ne_of_gt (blk_lt (upK BK267.out)) : gb287 ≠ gb267)); replace BK267 := Aside0.mk (blk_below (upK BK267.out) hb); have NB268_287 := Aside0.mk ((by rw [hg]; exact Nat.ne_of_lt (blk_lt (upK BK268.out)) : gb268 ≠ gb287)); have NB287_268 := Aside0.mk ((by rw [hg]; exact Nat.ne_of_gt (blk_lt (upK BK268.out)) : gb287 ≠ gb268)); replace BK268 := Aside0.mk (blk_below (upK BK268.out) hb); have NB281_287 := Aside0.mk ((by rw [hg]; exact Nat.ne_of_lt (blk_lt (upK BK281.out)) : gb281 ≠ gb287)); have NB287_281 := Aside0.mk ((by rw [hg]; exact Nat.ne_of_gt (blk_lt (upK BK281.out)) : gb287 ≠ gb281)); replace BK281 := Aside0.mk (blk_below (upK BK281.out) hb); clear hb hbox hg; have hnb102 := NB287_267.out; have hnc102 := NB267_287.out; have hnb103 := NB287_268.out; have hnc103 := NB268_287.out; have hnb104 := NB287_281.out; have hnc104 := NB281_287.out; obtain ⟨hcz105_0, hcz105_1, hfz105_0, hfz105_1⟩ := cells2 BK287.out; obtain ⟨Ao106, co106, eo106⟩ := Kd.S_slice HO285.out; subst eo106))
   have n0_ : Aside0 (Kd.V (Kd.slice 25 (Kd.int .u32)) 40 ((w101.setCell ⟨gb287, 0, none⟩ (.int .i64 t282)).setCell ⟨gb287, 1, none⟩ (.slice Ao106 t283.length co106)) w.heap.size (fun k_ => some k_ ≠ (.slice Ao98 t277.length co98 : Value).ownBlock ∧ some k_ ≠ (.slice Ao106 t283.length co106 : Value).ownBlock ∧ k_ ≠ gb267 ∧ k_ ≠ gb268 ∧ k_ ≠ gb281 ∧ k_ ≠ gb287) (.slice Ao86 t269.length co86) t269) := ⟨by refine upV ?_; exact Kd.V_mono (garV2 (g := gb287) (Kd.V_mono HO271.out (fun k_ hk => (⟨hk, hk.2⟩ : _ ∧ k_ ≠ gb287))) 0 (.int .i64 t282) 1 (.slice Ao106 t283.length co106)) (fun _ hk => ⟨hk.1.1.1.1.2, ⟨hk.1.1.2, ⟨hk.1.1.1.1.1.1, ⟨hk.1.1.1.1.1.2, ⟨hk.1.1.1.2, hk.1.2⟩⟩⟩⟩⟩)⟩
   have n1_ : Aside0 (Kd.V (Kd.slice 25 (Kd.int .u32)) 40 ((w101.setCell ⟨gb287, 0, none⟩ (.int .i64 t282)).setCell ⟨gb287, 1, none⟩ (.slice Ao106 t283.length co106)) w.heap.size (fun k_ => some k_ ≠ (.slice Ao98 t277.length co98 : Value).ownBlock ∧ some k_ ≠ (.slice Ao106 t283.length co106 : Value).ownBlock ∧ k_ ≠ gb267 ∧ k_ ≠ gb268 ∧ k_ ≠ gb281 ∧ k_ ≠ gb287) (.slice Ao89 t273.length co89) t273) := ⟨by refine upV ?_; exact Kd.V_mono (garV2 (g := gb287) (Kd.V_mono HO275.out (fun k_ hk => (⟨hk, hk.2⟩ : _ ∧ k_ ≠ gb287))) 0 (.int .i64 t282) 1 (.slice Ao106 t283.length co106)) (fun _ hk => ⟨hk.1.1.1.1.2, ⟨hk.1.1.2, ⟨hk.1.1.1.1.1.1, ⟨hk.1.1.1.1.1.2, ⟨hk.1.1.1.2, hk.1.2⟩⟩⟩⟩⟩)⟩
   have n2_ : Aside0 (Kd.S (Kd.slice 25 (Kd.int .u32)) 40 ((w101.setCell ⟨gb287, 0, none⟩ (.int .i64 t282)).setCell ⟨gb287, 1, none⟩ (.slice Ao106 t283.length co106)) w.heap.size (fun k_ => some k_ ≠ (.slice Ao106 t283.length co106 : Value).ownBlock) (.slice Ao98 t277.length co98) t277) := ⟨by (with_reducible repeat (first | apply Kd.S_alloc | apply Kd.S_drewN | apply Kd.S_drew)); exact Kd.S_mono (Kd.S_far (p := ⟨gb287, 1, none⟩) (Kd.S_far (p := ⟨gb287, 0, none⟩) (Kd.S_types HO279.out BK287.out (by decide)) (fun _ hk => hk.2) (.int .i64 t282)) (fun _ hk => hk.2) (.slice Ao106 t283.length co106)) (fun _ hk => hk.1.2)⟩
   have n3_ : Aside0 (Kd.S (Kd.slice 25 (Kd.int .u32)) 40 ((w101.setCell ⟨gb287, 0, none⟩ (.int .i64 t282)).setCell ⟨gb287, 1, none⟩ (.slice Ao106 t283.length co106)) w.heap.size (fun k_ => some k_ ≠ (.slice Ao98 t277.length co98 : Value).ownBlock) (.slice Ao106 t283.length co106) t283) := ⟨by (with_reducible repeat (first | apply Kd.S_alloc | apply Kd.S_drewN | apply Kd.S_drew)); exact Kd.S_mono (Kd.S_far (p := ⟨gb287, 1, none⟩) (Kd.S_far (p := ⟨gb287, 0, none⟩) (Kd.S_types HO285.out BK287.out (by decide)) (fun _ hk => hk.2) (.int .i64 t282)) (fun _ hk => hk.2) (.slice Ao106 t283.length co106)) (fun _ hk => hk.1.2)⟩
   have n4_ : Aside0 (((w101.setCell ⟨gb287, 0, none⟩ (.int .i64 t282)).setCell ⟨gb287, 1, none⟩ (.slice Ao106 t283.length co106)).heap[gb267]? = some (.cells #[.slice Ao86 t269.length co86] 24 (0, 0))) := ⟨by refine upK ?_; refine blk_far ?_ NB267_287.out _; refine upK ?_; refine blk_far ?_ NB267_287.out _; refine upK ?_; exact BK267.out⟩
   have n5_ : Aside0 (((w101.setCell ⟨gb287, 0, none⟩ (.int .i64 t282)).setCell ⟨gb287, 1, none⟩ (.slice Ao106 t283.length co106)).heap[gb268]? = some (.cells #[.int .i64 t272, .slice Ao89 t273.length co89] 27 (0, 0))) := ⟨by refine upK ?_; refine blk_far ?_ NB268_287.out _; refine upK ?_; refine blk_far ?_ NB268_287.out _; refine upK ?_; exact BK268.out⟩
   have n6_ : Aside0 (((w101.setCell ⟨gb287, 0, none⟩ (.int .i64 t282)).setCell ⟨gb287, 1, none⟩ (.slice Ao106 t283.length co106)).heap[gb281]? = some (.cells #[.int .i64 t276, .slice Ao98 t277.length co98] 27 (0, 0))) := ⟨by refine upK ?_; refine blk_far ?_ NB281_287.out _; refine upK ?_; refine blk_far ?_ NB281_287.out _; refine upK ?_; exact BK281.out⟩
   have n7_ : Aside0 (((w101.setCell ⟨gb287, 0, none⟩ (.int .i64 t282)).setCell ⟨gb287, 1, none⟩ (.slice Ao106 t283.length co106)).heap[gb287]? = some (.cells #[.int .i64 t282, .slice Ao106 t283.length co106] 27 (0, 0))) := ⟨by refine upK ?_; refine blk_put (cs := #[.int .i64 t282, .slice none 0 0]) ?_ 1 _ rfl; refine upK ?_; refine blk_put (cs := #[.int .i64 0, .slice none 0 0]) ?_ 0 _ rfl; refine upK ?_; exact BK287.out⟩
   have n8_ : Aside0 (Below w.heap.size w ((w101.setCell ⟨gb287, 0, none⟩ (.int .i64 t282)).setCell ⟨gb287, 1, none⟩ (.slice Ao106 t283.length co106))) := ⟨upB4 HB.out GE267.out GE268.out GE281.out GE287.out⟩
   (try clear HO271); (try clear HO275); (try clear HO279); (try clear HO285); (try clear BK267); (try clear BK268); (try clear BK281); (try clear BK287); (try clear HB)
   generalize ((w101.setCell ⟨gb287, 0, none⟩ (.int .i64 t282)).setCell ⟨gb287, 1, none⟩ (.slice Ao106 t283.length co106)) = w107 at n0_ n1_ n2_ n3_ n4_ n5_ n6_ n7_ n8_ ⊢
   have HO271 := n0_
   have HO275 := n1_
   have HO279 := n2_
   have HO285 := n3_
   have BK267 := n4_
   have BK268 := n5_
   have BK281 := n6_
   have BK287 := n7_
   have HB := n8_
   clear n0_ n1_ n2_ n3_ n4_ n5_ n6_ n7_ n8_
   replace HO271 := Aside0.mk (Kd.V_drew HO271.out)
   replace HO275 := Aside0.mk (Kd.V_drew HO275.out)
   replace HO279 := Aside0.mk (Kd.S_drew HO279.out)
   replace HO285 := Aside0.mk (Kd.S_drew HO285.out)
   replace BK267 := Aside0.mk (blk_drew BK267.out)
   replace BK268 := Aside0.mk (blk_drew BK268.out)
   replace BK281 := Aside0.mk (blk_drew BK281.out)
   replace BK287 := Aside0.mk (blk_drew BK287.out)
   replace HB := Aside0.mk (below_drew1 HB.out)
   refine start_ (n := 25) (S := fun w' => w'.cell? ⟨gb281, 0, none⟩ = some (.int .i64 t276) ∧ w'.cell? ⟨gb281, 1, none⟩ = some (.slice Ao98 t277.length co98) ∧ w'.cell? ⟨gb287, 0, none⟩ = some (.int .i64 t282) ∧ w'.cell? ⟨gb287, 1, none⟩ = some (.slice Ao106 t283.length co106)) (ds := []) (Array.replicate 25 false) (by kernel_rfl) rfl rfl ⟨(blk_cell BK281.out 0).trans rfl, (blk_cell BK281.out 1).trans rfl, (blk_cell BK287.out 0).trans rfl, (blk_cell BK287.out 1).trans rfl⟩ (fun hHeld => ?_); refine with_tabW plinthlaw25_TreeProves.tab4 plinthlaw25_TreeProves.bits4 (fun HT_ HW_ => ?_)
   generalize w107.drew = w108 at HO271 HO275 HO279 HO285 BK267 BK268 BK281 BK287 HB hHeld ⊢
   refine tM 0 33 HT_.out HW_.out hHeld ?_; refine tM 1 34 HT_.out HW_.out hHeld ?_
   refine oM 2 35 HT_.out (fun K hK => ?_)
   refine gM Try.func16 #[.agg #[.int .i64 t276, .slice Ao98 t277.length co98], .agg #[.int .i64 t282, .slice Ao106 t283.length co106]] ?_
   with_reducible refine (plinthref25_SameProof.calls k t276 _ _ t277 t282 _ _ t283 true _ ?side1 ?side2 ?side3 ?side4 A11.out).mono ?_
   (case side1 => exact upC ((Kd.S_reads' HO279.out).2.2))
   (case side2 => exact (Kd.S_reads' HO279.out).2.1)
   (case side3 => exact upC ((Kd.S_reads' HO285.out).2.2))
   (case side4 => exact (Kd.S_reads' HO285.out).2.1)
   rintro e w109 ⟨rfl, hb⟩
   refine ⟨_, rfl, ?_⟩
   replace HO271 := Aside0.mk (Kd.V_below (upV HO271.out) hb)
   replace HO275 := Aside0.mk (Kd.V_below (upV HO275.out) hb)
   replace HO279 := Aside0.mk (Kd.S_below (by (with_reducible repeat (first | apply Kd.S_alloc | apply Kd.S_drewN | apply Kd.S_drew)); exact HO279.out) hb)
   replace HO285 := Aside0.mk (Kd.S_below (by (with_reducible repeat (first | apply Kd.S_alloc | apply Kd.S_drewN | apply Kd.S_drew)); exact HO285.out) hb)
   replace BK267 := Aside0.mk (blk_below (upK BK267.out) hb)
   replace BK268 := Aside0.mk (blk_below (upK BK268.out) hb)
   replace BK281 := Aside0.mk (blk_below (upK BK281.out) hb)
   replace BK287 := Aside0.mk (blk_below (upK BK287.out) hb)
   replace HB := Aside0.mk (below_step (upB4 HB.out GE267.out GE268.out GE281.out GE287.out) hb)
   (try clear hb); (try clear hb2); (try clear hk); (try clear hi)
   refine hK.out _ _ ⟨(blk_cell BK281.out 0).trans rfl, (blk_cell BK281.out 1).trans rfl, (blk_cell BK287.out 0).trans rfl, (blk_cell BK287.out 1).trans rfl⟩ (fun hHeld => ?_)
   clear hK K
   refine nM 35 ?_; refine pM 3 36 HT_.out ?_; refine pM 4 37 HT_.out ?_; refine pM 5 38 HT_.out ?_; refine pM 6 39 HT_.out ?_; refine pM 7 40 HT_.out ?_; refine pM 8 41 HT_.out ?_; refine uM 9 42 HT_.out ?_; refine uM 10 43 HT_.out ?_; refine uM 11 44 HT_.out ?_; refine uM 12 45 HT_.out ?_; refine uM 13 46 HT_.out ?_; refine uM 14 47 HT_.out ?_; refine uM 15 48 HT_.out ?_; refine uM 16 49 HT_.out ?_; refine uM 17 50 HT_.out ?_; refine uM 18 51 HT_.out ?_; refine uM 19 52 HT_.out ?_; refine pM 20 53 HT_.out ?_; refine pM 21 54 HT_.out ?_; refine uM 22 55 HT_.out ?_; refine pM 23 56 HT_.out ?_; refine pM 24 12 HT_.out ?_
   refine done_ (done_of HT_.out (by kernel_rfl)) ?_
   try go_wp2
   go_ret
   exact ⟨by first | rfl | (simp [errW_none, errW_some] <;> rfl) | (simp [*, errW_none, errW_some] <;> rfl), upB4 HB.out GE267.out GE268.out GE281.out GE287.out⟩
 ·replace c12 := Bool.eq_false_iff.mpr c12
  subst c12
  have H1 : (some false) = some r := by rw [if_neg (show ¬ (false = true) by decide)] at H; exact H
  clear H
  have H := H1
  clear H1
  obtain rfl := Option.some.inj H
  go_enter Try.func3, Try.ntmps3
  try go_wp2_with (first | ((with_reducible refine gate_dst (N := 6) rfl ?_); refine box_event ?hg (N := 6) ?hd (cs := #[.slice A0_0 l0_0.length c0_0]) (t := 24) ?hr ?_; (case hd => rfl); (case hg => rfl); (case hr => first | (go_simp; done) | (go_simp; rfl)); intro gb267 hg w110 hbox hb; have BK267 := Aside0.mk (hbox); have GW267 := Aside0.mk ((by rw [hg]; exact (below_size (upB0 HB.out)) : w.heap.size ≤ gb267)); have GE267 := Aside0.mk ((by rw [hg]; exact (below_size (upB0 HB.out)) : w.heap.size ≤ gb267)); replace HB := Aside0.mk (below_step (upB0 HB.out) hb); clear hb hbox hg) | ((with_reducible refine gate_dst (N := 11) rfl ?_); refine box_event ?hg (N := 11) ?hd (cs := #[.int .i64 a5_0, .slice A5_1 l5_1.length c5_1]) (t := 27) ?hr ?_; (case hd => rfl); (case hg => rfl); (case hr => first | (go_simp; done) | (go_simp; rfl)); intro gb268 hg w111 hbox hb; have BK268 := Aside0.mk (hbox); have GW268 := Aside0.mk ((by rw [hg]; exact (below_size (upB1 HB.out GE267.out)) : w.heap.size ≤ gb268)); have GE268 := Aside0.mk ((by rw [hg]; exact (below_size (upB1 HB.out GE267.out)) : w.heap.size ≤ gb268)); replace HB := Aside0.mk (below_step (upB1 HB.out GE267.out) hb); have NB267_268 := Aside0.mk ((by rw [hg]; exact Nat.ne_of_lt (blk_lt (upK BK267.out)) : gb267 ≠ gb268)); have NB268_267 := Aside0.mk ((by rw [hg]; exact Nat.ne_of_gt (blk_lt (upK BK267.out)) : gb268 ≠ gb267)); replace BK267 := Aside0.mk (blk_below (upK BK267.out) hb); clear hb hbox hg))
  replace BK267 := Aside0.mk (blk_drew BK267.out)
  replace BK268 := Aside0.mk (blk_drew BK268.out)
  replace HB := Aside0.mk (below_drew1 HB.out)
  refine start_ (n := 6) (S := fun w' => w'.cell? ⟨gb267, 0, none⟩ = some (.slice A0_0 l0_0.length c0_0) ∧ w'.cell? ⟨gb268, 0, none⟩ = some (.int .i64 a5_0) ∧ w'.cell? ⟨gb268, 1, none⟩ = some (.slice A5_1 l5_1.length c5_1)) (ds := [4, 5]) (Array.replicate 6 false) (by kernel_rfl) rfl rfl ⟨(blk_cell BK267.out 0).trans rfl, (blk_cell BK268.out 0).trans rfl, (blk_cell BK268.out 1).trans rfl⟩ (fun hHeld => ?_)
  generalize w111.drew = w112 at BK267 BK268 HB hHeld ⊢
  refine take_ (i := 0) (N := some 17) (v := ?_) (a' := ?_) #[true, false, false, false, false, false] rfl rfl (by kernel_rfl) (fun _ _ _ h => h) (Or.inl ⟨by rfl, ?_⟩) hHeld ?_ ?_
  rotate_left
  ·rintro w' ⟨s0, s1, s2⟩
   go_simp
   with_reducible rfl
  rotate_left
  ·simp only [Act.put, List.setIfInBounds_toArray, List.set_cons_zero, List.set_cons_succ, i64_w, i32_w]
   rfl
  refine take_ (i := 2) (N := some 19) (v := ?_) (a' := ?_) #[true, false, true, false, false, false] rfl rfl (by kernel_rfl) (fun _ _ _ h => h) (Or.inl ⟨by rfl, ?_⟩) hHeld ?_ ?_
  rotate_left
  ·rintro w' ⟨s0, s1, s2⟩
   go_simp
   with_reducible rfl
  rotate_left
  ·simp only [Act.put, List.setIfInBounds_toArray, List.set_cons_zero, List.set_cons_succ, i64_w, i32_w]
   rfl
  refine one_ (i := 1) (N := some 18) #[true, true, true, false, false, false] rfl rfl (by kernel_rfl) (by decide) (fun K hK => ?_)
  refine gM Try.func12 #[.agg #[.slice A0_0 l0_0.length c0_0]] ?_
  with_reducible refine (plinthlaw25_cut.calls k (fun k_ => k_ < w.heap.size) _ _ l0_0 t269 _ ?side1 A7.out).mono ?_
  (case side1 => exact Kd.V_mk HC0_0.out (Kd.F_below (Kd.C_F (Kd.heap_slice 25 (Kd.heap_int .u32)) HR0_0.out) (upB2 HB.out GE267.out GE268.out)))
  rintro e w113 ⟨v270, rfl, ho0, hb⟩
  refine ⟨_, rfl, ?_⟩
  have HO271 := Aside0.mk (Kd.V_lower (Kd.V_mono (ok' := fun k_ => k_ ≠ gb267 ∧ k_ ≠ gb268) ho0 (fun k_ hk_ => ⟨Or.elim hk_ (fun hs_ => fun e_ => Nat.not_le.2 hs_ (by rw [e_]; exact GW267.out)) (fun hn_ => (Kd.freshB (upK BK267.out) k_ hn_)), Or.elim hk_ (fun hs_ => fun e_ => Nat.not_le.2 hs_ (by rw [e_]; exact GW268.out)) (fun hn_ => (Kd.freshB (upK BK268.out) k_ hn_))⟩)) (below_size (upB2 HB.out GE267.out GE268.out)))
  replace BK267 := Aside0.mk (blk_below (upK BK267.out) hb)
  replace BK268 := Aside0.mk (blk_below (upK BK268.out) hb)
  replace HB := Aside0.mk (below_step (upB2 HB.out GE267.out GE268.out) hb)
  (try clear hb); (try clear hb2); (try clear hk); (try clear hi); (try clear ho0)
  refine hK.out _ _ ⟨(blk_cell BK267.out 0).trans rfl, (blk_cell BK268.out 0).trans rfl, (blk_cell BK268.out 1).trans rfl⟩ (fun hHeld => ?_)
  clear hK K
  refine nM 18 ?_
  refine one_ (i := 3) (N := some 20) #[true, true, true, true, false, false] rfl rfl (by kernel_rfl) (by decide) (fun K hK => ?_)
  refine gM Try.func13 #[.agg #[.int .i64 a5_0, .slice A5_1 l5_1.length c5_1]] ?_
  with_reducible refine (plinthlaw25_light.calls k a5_0 (fun k_ => k_ < w.heap.size) _ _ l5_1 t272 t273 _ ?side1 A8.out).mono ?_
  (case side1 => exact Kd.V_mk HC5_1.out (Kd.F_below (Kd.C_F (Kd.heap_slice 25 (Kd.heap_int .u32)) HR5_1.out) (upB2 HB.out GE267.out GE268.out)))
  rintro e w114 ⟨v274, rfl, ho0, hb⟩
  refine ⟨_, rfl, ?_⟩
  replace HO271 := Aside0.mk (Kd.V_below (upV HO271.out) hb)
  have HO275 := Aside0.mk (Kd.V_lower (Kd.V_mono (ok' := fun k_ => k_ ≠ gb267 ∧ k_ ≠ gb268) ho0 (fun k_ hk_ => ⟨Or.elim hk_ (fun hs_ => fun e_ => Nat.not_le.2 hs_ (by rw [e_]; exact GW267.out)) (fun hn_ => (Kd.freshB (upK BK267.out) k_ hn_)), Or.elim hk_ (fun hs_ => fun e_ => Nat.not_le.2 hs_ (by rw [e_]; exact GW268.out)) (fun hn_ => (Kd.freshB (upK BK268.out) k_ hn_))⟩)) (below_size (upB2 HB.out GE267.out GE268.out)))
  replace BK267 := Aside0.mk (blk_below (upK BK267.out) hb)
  replace BK268 := Aside0.mk (blk_below (upK BK268.out) hb)
  replace HB := Aside0.mk (below_step (upB2 HB.out GE267.out GE268.out) hb)
  (try clear hb); (try clear hb2); (try clear hk); (try clear hi); (try clear ho0)
  obtain ⟨Ao115, co115, eo115⟩ := Kd.V_slice HO271.out
  (first | subst eo115 | (injection eo115 with f1_ f2_ f3_; have f4_ := f1_.symm; have f5_ := f3_.symm; clear f1_ f2_ f3_; subst f4_; subst f5_))
  obtain ⟨Ao118, co118, eo118⟩ := Kd.V_slice HO275.out
  (first | subst eo118 | (injection eo118 with f1_ f2_ f3_; have f4_ := f1_.symm; have f5_ := f3_.symm; clear f1_ f2_ f3_; subst f4_; subst f5_))
  refine hK.out _ _ ⟨(blk_cell BK267.out 0).trans rfl, (blk_cell BK268.out 0).trans rfl, (blk_cell BK268.out 1).trans rfl⟩ (fun hHeld => ?_)
  clear hK K
  refine nM 20 ?_
  refine last_ (i := 4) (N := none) #[true, true, true, true, true, false] rfl rfl (by kernel_rfl) (by decide) (fun K hK => ?_)
  have hs116 : w114.cell? ⟨gb267, 0, none⟩ = some (.slice A0_0 l0_0.length c0_0) := (blk_cell BK267.out 0).trans rfl
  have hfs116 := blk_frozen BK267.out 0
  have hns116_1 := NB268_267.out
  have hms116_1 := NB267_268.out
  refine skip_ (w1 := ?_) (by rfl) rfl ?_ ?_
  rotate_left
  ·go_simp
   rfl
  refine hK.out _ _ ?_
  clear hK K
  refine last_ (i := 5) (N := none) #[true, true, true, true, true, true] rfl rfl (by kernel_rfl) (by decide) (fun K hK => ?_)
  have hs117 : w114.cell? ⟨gb268, 0, none⟩ = some (.int .i64 a5_0) := (blk_cell BK268.out 0).trans rfl
  have hfs117 := blk_frozen BK268.out 0
  have hns117_0 := NB267_268.out
  have hms117_0 := NB268_267.out
  have hs119 : w114.cell? ⟨gb268, 1, none⟩ = some (.slice A5_1 l5_1.length c5_1) := (blk_cell BK268.out 1).trans rfl
  have hfs119 := blk_frozen BK268.out 1
  have hns119_0 := NB267_268.out
  have hms119_0 := NB268_267.out
  refine skip_ (w1 := ?_) (by rfl) rfl ?_ ?_
  rotate_left
  ·go_simp
   rfl
  refine hK.out _ _ ?_
  clear hK K
  refine done_ (by kernel_rfl) ?_
  have hnb120 := NB267_268.out
  have hnc120 := NB268_267.out
  obtain ⟨hcz121_0, hfz121_0⟩ := cells1 BK267.out
  try go_wp2_with (first | ((with_reducible refine gate_callee (f := 14) rfl ?_); refine goesL_ (some 24) rfl rfl Try.func14 (by kernel_rfl) rfl #[.agg #[.slice Ao115 t269.length co115], .int .i64 a1] rfl argA ?_; (with_reducible refine (tree_Prove.calls k _ _ t269 a1 t276 t277 t280 _ ?side1 ?side2 A9.out).mono ?_); (case side1 => refine (Kd.V_reads' (e := 40) (base := w.heap.size) (ok := fun k_ => (k_ ≠ gb267 ∧ k_ ≠ gb268)) (n := t269.length) (c := co115) ?_).2.2; exact (by refine upV ?_; exact (Kd.V_mono (farV2 (g := gb268) (Kd.V_far (p := ⟨gb267, 0, none⟩) (Kd.V_mono (Kd.V_mono HO271.out (fun k_ hk => (⟨hk, hk.1⟩ : _ ∧ k_ ≠ gb267))) (fun k_ hk => (⟨hk, hk.1.2⟩ : _ ∧ k_ ≠ gb268))) (fun _ hk => hk.1.2) (.slice Ao115 t269.length co115)) 0 (.int .i64 t272) 1 (.slice Ao118 t273.length co118)) (fun _ h_ => h_.1)))); (case side2 => exact (Kd.V_reads' HO271.out).2.1); rintro e w122 ⟨v278, rfl, ho0, hb⟩; refine ⟨_, rfl, ?_⟩; replace HO271 := Aside0.mk (Kd.V_elder' (by refine upV ?_; exact (Kd.V_mono (farV2 (g := gb268) (Kd.V_far (p := ⟨gb267, 0, none⟩) (Kd.V_mono (Kd.V_mono HO271.out (fun k_ hk => (⟨hk, hk.1⟩ : _ ∧ k_ ≠ gb267))) (fun k_ hk => (⟨hk, hk.1.2⟩ : _ ∧ k_ ≠ gb268))) (fun _ hk => hk.1.2) (.slice Ao115 t269.length co115)) 0 (.int .i64 t272) 1 (.slice Ao118 t273.length co118)) (fun _ h_ => h_.1))) (Kd.S_base ho0) hb); replace HO275 := Aside0.mk (Kd.V_elder' (by refine upV ?_; exact (Kd.V_mono (farV2 (g := gb268) (Kd.V_far (p := ⟨gb267, 0, none⟩) (Kd.V_mono (Kd.V_mono HO275.out (fun k_ hk => (⟨hk, hk.1⟩ : _ ∧ k_ ≠ gb267))) (fun k_ hk => (⟨hk, hk.1.2⟩ : _ ∧ k_ ≠ gb268))) (fun _ hk => hk.1.2) (.slice Ao115 t269.length co115)) 0 (.int .i64 t272) 1 (.slice Ao118 t273.length co118)) (fun _ h_ => h_.1))) (Kd.S_base ho0) hb); have HO279 := Aside0.mk (Kd.S_lower ho0 (below_size (upB2 HB.out GE267.out GE268.out))); replace BK267 := Aside0.mk (blk_below (g := gb267) (o := .cells #[.slice Ao115 t269.length co115] 24 (0, 0)) (by refine upK ?_; refine blk_far ?_ NB267_268.out _; refine upK ?_; refine blk_far ?_ NB267_268.out _; refine upK ?_; refine blk_put (cs := #[.slice A0_0 l0_0.length c0_0]) ?_ 0 _ rfl; refine upK ?_; exact BK267.out) hb); replace BK268 := Aside0.mk (blk_below (g := gb268) (o := .cells #[.int .i64 t272, .slice Ao118 t273.length co118] 27 (0, 0)) (by refine upK ?_; refine blk_put (cs := #[.int .i64 t272, .slice A5_1 l5_1.length c5_1]) ?_ 1 _ rfl; refine upK ?_; refine blk_put (cs := #[.int .i64 a5_0, .slice A5_1 l5_1.length c5_1]) ?_ 0 _ rfl; refine upK ?_; refine blk_far ?_ NB268_267.out _; refine upK ?_; exact BK268.out) hb); replace HB := Aside0.mk (below_step (upB2 HB.out GE267.out GE268.out) hb); (try clear hb); (try clear hb2); (try clear hk); (try clear hi); (try clear ho0)) | ((with_reducible refine gate_dst (N := 13) rfl ?_); refine box_event ?hg (N := 13) ?hd (cs := #[.int .i64 0, .slice none 0 0]) (t := 27) ?hr ?_; (case hd => rfl); (case hg => rfl); (case hr => first | (go_simp; done) | (go_simp; rfl)); intro gb281 hg w123 hbox hb; replace HO271 := Aside0.mk (Kd.V_below (Kd.V_elderB (upV HO271.out) gb281 (Nat.le_of_eq hg.symm)) hb); replace HO275 := Aside0.mk (Kd.V_below (Kd.V_elderB (upV HO275.out) gb281 (Nat.le_of_eq hg.symm)) hb); replace HO279 := Aside0.mk (Kd.S_below (by (with_reducible repeat (first | apply Kd.S_alloc | apply Kd.S_drewN | apply Kd.S_drew)); exact HO279.out) hb); have BK281 := Aside0.mk (hbox); have GW281 := Aside0.mk ((by rw [hg]; exact (below_size (upB2 HB.out GE267.out GE268.out)) : w.heap.size ≤ gb281)); have GE281 := Aside0.mk ((by rw [hg]; exact (below_size (upB2 HB.out GE267.out GE268.out)) : w.heap.size ≤ gb281)); replace HB := Aside0.mk (below_step (upB2 HB.out GE267.out GE268.out) hb); have NB267_281 := Aside0.mk ((by rw [hg]; exact Nat.ne_of_lt (blk_lt (upK BK267.out)) : gb267 ≠ gb281)); have NB281_267 := Aside0.mk ((by rw [hg]; exact Nat.ne_of_gt (blk_lt (upK BK267.out)) : gb281 ≠ gb267)); replace BK267 := Aside0.mk (blk_below (upK BK267.out) hb); have NB268_281 := Aside0.mk ((by rw [hg]; exact Nat.ne_of_lt (blk_lt (upK BK268.out)) : gb268 ≠ gb281)); have NB281_268 := Aside0.mk ((by rw [hg]; exact Nat.ne_of_gt (blk_lt (upK BK268.out)) : gb281 ≠ gb268)); replace BK268 := Aside0.mk (blk_below (upK BK268.out) hb); clear hb hbox hg; have hnb124 := NB281_267.out; have hnc124 := NB267_281.out; have hnb125 := NB281_268.out; have hnc125 := NB268_281.out; obtain ⟨hcz126_0, hcz126_1, hfz126_0, hfz126_1⟩ := cells2 BK281.out; obtain ⟨Ao127, co127, eo127⟩ := Kd.S_slice HO279.out; subst eo127; obtain ⟨hcz128_0, hfz128_0⟩ := cells1 BK267.out) | ((with_reducible refine gate_callee (f := 15) rfl ?_); refine goesL_ (some 30) rfl rfl Try.func15 (by kernel_rfl) rfl #[.agg #[.slice Ao115 t269.length co115], .int .i64 a1] rfl argA ?_; (with_reducible refine (plinthref25_Prove.calls k _ _ t269 a1 t282 t283 t286 _ ?side1 ?side2 A10.out).mono ?_); (case side1 => refine (Kd.V_reads' (e := 40) (base := w.heap.size) (ok := fun k_ => (((k_ ≠ gb267 ∧ k_ ≠ gb268) ∧ some k_ ≠ (.slice Ao127 t277.length co127 : Value).ownBlock) ∧ k_ ≠ gb281)) (n := t269.length) (c := co115) ?_).2.2; exact (by refine upV ?_; exact (fV2 (Kd.V_mono HO271.out (fun k_ hk => (⟨hk, hk.2⟩ : _ ∧ k_ ≠ gb281)))))); (case side2 => exact (Kd.V_reads' HO271.out).2.1); rintro e w129 ⟨v284, rfl, ho0, hb⟩; refine ⟨_, rfl, ?_⟩; replace HO271 := Aside0.mk (Kd.V_elder' (by refine upV ?_; exact (fV2 (Kd.V_mono HO271.out (fun k_ hk => (⟨hk, hk.2⟩ : _ ∧ k_ ≠ gb281))))) (Kd.S_base ho0) hb); replace HO275 := Aside0.mk (Kd.V_elder' (by refine upV ?_; exact (fV2 (Kd.V_mono HO275.out (fun k_ hk => (⟨hk, hk.2⟩ : _ ∧ k_ ≠ gb281))))) (Kd.S_base ho0) hb); have HO285 := Aside0.mk (Kd.S_lower (Kd.S_new' ho0 (Kd.S_lt (by (with_reducible repeat (first | apply Kd.S_alloc | apply Kd.S_drewN | apply Kd.S_drew)); exact (Kd.S_mono (Kd.S_far (p := ⟨gb281, 1, none⟩) (Kd.S_far (p := ⟨gb281, 0, none⟩) (Kd.S_types HO279.out BK281.out (by decide)) (fun _ hk => hk.2) (.int .i64 t276)) (fun _ hk => hk.2) (.slice Ao127 t277.length co127)) (fun _ h_ => h_.1))))) (below_size (upB3 HB.out GE267.out GE268.out GE281.out))); replace HO279 := Aside0.mk (Kd.S_elder' (by (with_reducible repeat (first | apply Kd.S_alloc | apply Kd.S_drewN | apply Kd.S_drew)); exact (Kd.S_mono (Kd.S_far (p := ⟨gb281, 1, none⟩) (Kd.S_far (p := ⟨gb281, 0, none⟩) (Kd.S_types HO279.out BK281.out (by decide)) (fun _ hk => hk.2) (.int .i64 t276)) (fun _ hk => hk.2) (.slice Ao127 t277.length co127)) (fun _ h_ => h_.1))) (Kd.S_base ho0) hb); replace BK267 := Aside0.mk (blk_below (g := gb267) (o := .cells #[.slice Ao115 t269.length co115] 24 (0, 0)) (by refine upK ?_; refine blk_far ?_ NB267_281.out _; refine upK ?_; refine blk_far ?_ NB267_281.out _; refine upK ?_; exact BK267.out) hb); replace BK268 := Aside0.mk (blk_below (g := gb268) (o := .cells #[.int .i64 t272, .slice Ao118 t273.length co118] 27 (0, 0)) (by refine upK ?_; refine blk_far ?_ NB268_281.out _; refine upK ?_; refine blk_far ?_ NB268_281.out _; refine upK ?_; exact BK268.out) hb); replace BK281 := Aside0.mk (blk_below (g := gb281) (o := .cells #[.int .i64 t276, .slice Ao127 t277.length co127] 27 (0, 0)) (by refine upK ?_; refine blk_put (cs := #[.int .i64 t276, .slice none 0 0]) ?_ 1 _ rfl; refine upK ?_; refine blk_put (cs := #[.int .i64 0, .slice none 0 0]) ?_ 0 _ rfl; refine upK ?_; exact BK281.out) hb); replace HB := Aside0.mk (below_step (upB3 HB.out GE267.out GE268.out GE281.out) hb); (try clear hb); (try clear hb2); (try clear hk); (try clear hi); (try clear ho0)) | ((with_reducible refine gate_dst (N := 15) rfl ?_); refine box_event ?hg (N := 15) ?hd (cs := #[.int .i64 0, .slice none 0 0]) (t := 27) ?hr ?_; (case hd => rfl); (case hg => rfl); (case hr => first | (go_simp; done) | (go_simp; rfl)); intro gb287 hg w130 hbox hb; replace HO271 := Aside0.mk (Kd.V_below (Kd.V_elderB (upV HO271.out) gb287 (Nat.le_of_eq hg.symm)) hb); replace HO275 := Aside0.mk (Kd.V_below (Kd.V_elderB (upV HO275.out) gb287 (Nat.le_of_eq hg.symm)) hb); replace HO279 := Aside0.mk (Kd.S_below (by (with_reducible repeat (first | apply Kd.S_alloc | apply Kd.S_drewN | apply Kd.S_drew)); exact HO279.out) hb); replace HO285 := Aside0.mk (Kd.S_below (by (with_reducible repeat (first | apply Kd.S_alloc | apply Kd.S_drewN | apply Kd.S_drew)); exact HO285.out) hb); have BK287 := Aside0.mk (hbox); have GW287 := Aside0.mk ((by rw [hg]; exact (below_size (upB3 HB.out GE267.out GE268.out GE281.out)) : w.heap.size ≤ gb287)); have GE287 := Aside0.mk ((by rw [hg]; exact (below_size (upB3 HB.out GE267.out GE268.out GE281.out)) : w.heap.size ≤ gb287)); replace HB := Aside0.mk (below_step (upB3 HB.out GE267.out GE268.out GE281.out) hb); have NB267_287 := Aside0.mk ((by rw [hg]; exact Nat.ne_of_lt (blk_lt (upK BK267.out)) : gb267 ≠ gb287)); have NB287_267 := Aside0.mk ((by rw [hg]; exact Nat.ne_of_gt (blk_lt (upK BK267.out)) : gb287 ≠ gb267)); replace BK267 := Aside0.mk (blk_below (upK BK267.out) hb); have NB268_287 := Aside0.mk ((by rw [hg]; exact Nat.ne_of_lt (blk_lt (upK BK268.out)) : gb268 ≠ gb287)); have NB287_268 := Aside0.mk ((by rw [hg]; exact Nat.ne_of_gt (blk_lt (upK BK268.out)) : gb287 ≠ gb268)); replace BK268 := Aside0.mk (blk_below (upK BK268.out) hb); have NB281_287 := Aside0.mk ((by rw [hg]; exact Nat.ne_of_lt (blk_lt (upK BK281.out)) : gb281 ≠ gb287)); have NB287_281 := Aside0.mk ((by rw [hg]; exact Nat.ne_of_gt (blk_lt (upK BK281.out)) : gb287 ≠ gb281)); replace BK281 := Aside0.mk (blk_below (upK BK281.out) hb); clear hb hbox hg; have hnb131 := NB287_267.out; have hnc131 := NB267_287.out; have hnb132 := NB287_268.out; have hnc132 := NB268_287.out; have hnb133 := NB287_281.out; have hnc133 := NB281_287.out; obtain ⟨hcz134_0, hcz134_1, hfz134_0, hfz134_1⟩ := cells2 BK287.out; obtain ⟨Ao135, co135, eo135⟩ := Kd.S_slice HO285.out; subst eo135))
  have n0_ : Aside0 (Kd.V (Kd.slice 25 (Kd.int .u32)) 40 ((w130.setCell ⟨gb287, 0, none⟩ (.int .i64 t282)).setCell ⟨gb287, 1, none⟩ (.slice Ao135 t283.length co135)) w.heap.size (fun k_ => some k_ ≠ (.slice Ao127 t277.length co127 : Value).ownBlock ∧ some k_ ≠ (.slice Ao135 t283.length co135 : Value).ownBlock ∧ k_ ≠ gb267 ∧ k_ ≠ gb268 ∧ k_ ≠ gb281 ∧ k_ ≠ gb287) (.slice Ao115 t269.length co115) t269) := ⟨by refine upV ?_; exact Kd.V_mono (garV2 (g := gb287) (Kd.V_mono HO271.out (fun k_ hk => (⟨hk, hk.2⟩ : _ ∧ k_ ≠ gb287))) 0 (.int .i64 t282) 1 (.slice Ao135 t283.length co135)) (fun _ hk => ⟨hk.1.1.1.1.2, ⟨hk.1.1.2, ⟨hk.1.1.1.1.1.1, ⟨hk.1.1.1.1.1.2, ⟨hk.1.1.1.2, hk.1.2⟩⟩⟩⟩⟩)⟩
  have n1_ : Aside0 (Kd.V (Kd.slice 25 (Kd.int .u32)) 40 ((w130.setCell ⟨gb287, 0, none⟩ (.int .i64 t282)).setCell ⟨gb287, 1, none⟩ (.slice Ao135 t283.length co135)) w.heap.size (fun k_ => some k_ ≠ (.slice Ao127 t277.length co127 : Value).ownBlock ∧ some k_ ≠ (.slice Ao135 t283.length co135 : Value).ownBlock ∧ k_ ≠ gb267 ∧ k_ ≠ gb268 ∧ k_ ≠ gb281 ∧ k_ ≠ gb287) (.slice Ao118 t273.length co118) t273) := ⟨by refine upV ?_; exact Kd.V_mono (garV2 (g := gb287) (Kd.V_mono HO275.out (fun k_ hk => (⟨hk, hk.2⟩ : _ ∧ k_ ≠ gb287))) 0 (.int .i64 t282) 1 (.slice Ao135 t283.length co135)) (fun _ hk => ⟨hk.1.1.1.1.2, ⟨hk.1.1.2, ⟨hk.1.1.1.1.1.1, ⟨hk.1.1.1.1.1.2, ⟨hk.1.1.1.2, hk.1.2⟩⟩⟩⟩⟩)⟩
  have n2_ : Aside0 (Kd.S (Kd.slice 25 (Kd.int .u32)) 40 ((w130.setCell ⟨gb287, 0, none⟩ (.int .i64 t282)).setCell ⟨gb287, 1, none⟩ (.slice Ao135 t283.length co135)) w.heap.size (fun k_ => some k_ ≠ (.slice Ao135 t283.length co135 : Value).ownBlock) (.slice Ao127 t277.length co127) t277) := ⟨by (with_reducible repeat (first | apply Kd.S_alloc | apply Kd.S_drewN | apply Kd.S_drew)); exact Kd.S_mono (Kd.S_far (p := ⟨gb287, 1, none⟩) (Kd.S_far (p := ⟨gb287, 0, none⟩) (Kd.S_types HO279.out BK287.out (by decide)) (fun _ hk => hk.2) (.int .i64 t282)) (fun _ hk => hk.2) (.slice Ao135 t283.length co135)) (fun _ hk => hk.1.2)⟩
  have n3_ : Aside0 (Kd.S (Kd.slice 25 (Kd.int .u32)) 40 ((w130.setCell ⟨gb287, 0, none⟩ (.int .i64 t282)).setCell ⟨gb287, 1, none⟩ (.slice Ao135 t283.length co135)) w.heap.size (fun k_ => some k_ ≠ (.slice Ao127 t277.length co127 : Value).ownBlock) (.slice Ao135 t283.length co135) t283) := ⟨by (with_reducible repeat (first | apply Kd.S_alloc | apply Kd.S_drewN | apply Kd.S_drew)); exact Kd.S_mono (Kd.S_far (p := ⟨gb287, 1, none⟩) (Kd.S_far (p := ⟨gb287, 0, none⟩) (Kd.S_types HO285.out BK287.out (by decide)) (fun _ hk => hk.2) (.int .i64 t282)) (fun _ hk => hk.2) (.slice Ao135 t283.length co135)) (fun _ hk => hk.1.2)⟩
  have n4_ : Aside0 (((w130.setCell ⟨gb287, 0, none⟩ (.int .i64 t282)).setCell ⟨gb287, 1, none⟩ (.slice Ao135 t283.length co135)).heap[gb267]? = some (.cells #[.slice Ao115 t269.length co115] 24 (0, 0))) := ⟨by refine upK ?_; refine blk_far ?_ NB267_287.out _; refine upK ?_; refine blk_far ?_ NB267_287.out _; refine upK ?_; exact BK267.out⟩
  have n5_ : Aside0 (((w130.setCell ⟨gb287, 0, none⟩ (.int .i64 t282)).setCell ⟨gb287, 1, none⟩ (.slice Ao135 t283.length co135)).heap[gb268]? = some (.cells #[.int .i64 t272, .slice Ao118 t273.length co118] 27 (0, 0))) := ⟨by refine upK ?_; refine blk_far ?_ NB268_287.out _; refine upK ?_; refine blk_far ?_ NB268_287.out _; refine upK ?_; exact BK268.out⟩
  have n6_ : Aside0 (((w130.setCell ⟨gb287, 0, none⟩ (.int .i64 t282)).setCell ⟨gb287, 1, none⟩ (.slice Ao135 t283.length co135)).heap[gb281]? = some (.cells #[.int .i64 t276, .slice Ao127 t277.length co127] 27 (0, 0))) := ⟨by refine upK ?_; refine blk_far ?_ NB281_287.out _; refine upK ?_; refine blk_far ?_ NB281_287.out _; refine upK ?_; exact BK281.out⟩
  have n7_ : Aside0 (((w130.setCell ⟨gb287, 0, none⟩ (.int .i64 t282)).setCell ⟨gb287, 1, none⟩ (.slice Ao135 t283.length co135)).heap[gb287]? = some (.cells #[.int .i64 t282, .slice Ao135 t283.length co135] 27 (0, 0))) := ⟨by refine upK ?_; refine blk_put (cs := #[.int .i64 t282, .slice none 0 0]) ?_ 1 _ rfl; refine upK ?_; refine blk_put (cs := #[.int .i64 0, .slice none 0 0]) ?_ 0 _ rfl; refine upK ?_; exact BK287.out⟩
  have n8_ : Aside0 (Below w.heap.size w ((w130.setCell ⟨gb287, 0, none⟩ (.int .i64 t282)).setCell ⟨gb287, 1, none⟩ (.slice Ao135 t283.length co135))) := ⟨upB4 HB.out GE267.out GE268.out GE281.out GE287.out⟩
  (try clear HO271); (try clear HO275); (try clear HO279); (try clear HO285); (try clear BK267); (try clear BK268); (try clear BK281); (try clear BK287); (try clear HB)
  generalize ((w130.setCell ⟨gb287, 0, none⟩ (.int .i64 t282)).setCell ⟨gb287, 1, none⟩ (.slice Ao135 t283.length co135)) = w136 at n0_ n1_ n2_ n3_ n4_ n5_ n6_ n7_ n8_ ⊢
  have HO271 := n0_
  have HO275 := n1_
  have HO279 := n2_
  have HO285 := n3_
  have BK267 := n4_
  have BK268 := n5_
  have BK281 := n6_
  have BK287 := n7_
  have HB := n8_
  clear n0_ n1_ n2_ n3_ n4_ n5_ n6_ n7_ n8_
  replace HO271 := Aside0.mk (Kd.V_drew HO271.out)
  replace HO275 := Aside0.mk (Kd.V_drew HO275.out)
  replace HO279 := Aside0.mk (Kd.S_drew HO279.out)
  replace HO285 := Aside0.mk (Kd.S_drew HO285.out)
  replace BK267 := Aside0.mk (blk_drew BK267.out)
  replace BK268 := Aside0.mk (blk_drew BK268.out)
  replace BK281 := Aside0.mk (blk_drew BK281.out)
  replace BK287 := Aside0.mk (blk_drew BK287.out)
  replace HB := Aside0.mk (below_drew1 HB.out)
  refine start_ (n := 25) (S := fun w' => w'.cell? ⟨gb281, 0, none⟩ = some (.int .i64 t276) ∧ w'.cell? ⟨gb281, 1, none⟩ = some (.slice Ao127 t277.length co127) ∧ w'.cell? ⟨gb287, 0, none⟩ = some (.int .i64 t282) ∧ w'.cell? ⟨gb287, 1, none⟩ = some (.slice Ao135 t283.length co135)) (ds := []) (Array.replicate 25 false) (by kernel_rfl) rfl rfl ⟨(blk_cell BK281.out 0).trans rfl, (blk_cell BK281.out 1).trans rfl, (blk_cell BK287.out 0).trans rfl, (blk_cell BK287.out 1).trans rfl⟩ (fun hHeld => ?_); refine with_tabW plinthlaw25_TreeProves.tab4 plinthlaw25_TreeProves.bits4 (fun HT_ HW_ => ?_)
  generalize w136.drew = w137 at HO271 HO275 HO279 HO285 BK267 BK268 BK281 BK287 HB hHeld ⊢
  refine tM 0 33 HT_.out HW_.out hHeld ?_; refine tM 1 34 HT_.out HW_.out hHeld ?_
  refine oM 2 35 HT_.out (fun K hK => ?_)
  refine gM Try.func16 #[.agg #[.int .i64 t276, .slice Ao127 t277.length co127], .agg #[.int .i64 t282, .slice Ao135 t283.length co135]] ?_
  with_reducible refine (plinthref25_SameProof.calls k t276 _ _ t277 t282 _ _ t283 false _ ?side1 ?side2 ?side3 ?side4 A11.out).mono ?_
  (case side1 => exact upC ((Kd.S_reads' HO279.out).2.2))
  (case side2 => exact (Kd.S_reads' HO279.out).2.1)
  (case side3 => exact upC ((Kd.S_reads' HO285.out).2.2))
  (case side4 => exact (Kd.S_reads' HO285.out).2.1)
  rintro e w138 ⟨rfl, hb⟩
  refine ⟨_, rfl, ?_⟩
  replace HO271 := Aside0.mk (Kd.V_below (upV HO271.out) hb)
  replace HO275 := Aside0.mk (Kd.V_below (upV HO275.out) hb)
  replace HO279 := Aside0.mk (Kd.S_below (by (with_reducible repeat (first | apply Kd.S_alloc | apply Kd.S_drewN | apply Kd.S_drew)); exact HO279.out) hb)
  replace HO285 := Aside0.mk (Kd.S_below (by (with_reducible repeat (first | apply Kd.S_alloc | apply Kd.S_drewN | apply Kd.S_drew)); exact HO285.out) hb)
  replace BK267 := Aside0.mk (blk_below (upK BK267.out) hb)
  replace BK268 := Aside0.mk (blk_below (upK BK268.out) hb)
  replace BK281 := Aside0.mk (blk_below (upK BK281.out) hb)
  replace BK287 := Aside0.mk (blk_below (upK BK287.out) hb)
  replace HB := Aside0.mk (below_step (upB4 HB.out GE267.out GE268.out GE281.out GE287.out) hb)
  (try clear hb); (try clear hb2); (try clear hk); (try clear hi)
  refine hK.out _ _ ⟨(blk_cell BK281.out 0).trans rfl, (blk_cell BK281.out 1).trans rfl, (blk_cell BK287.out 0).trans rfl, (blk_cell BK287.out 1).trans rfl⟩ (fun hHeld => ?_)
  clear hK K
  refine nM 35 ?_; refine pM 3 36 HT_.out ?_; refine uM 4 37 HT_.out ?_; refine uM 5 38 HT_.out ?_; refine uM 6 39 HT_.out ?_; refine pM 7 40 HT_.out ?_; refine pM 8 41 HT_.out ?_; refine uM 9 42 HT_.out ?_; refine uM 10 43 HT_.out ?_; refine uM 11 44 HT_.out ?_; refine uM 12 45 HT_.out ?_; refine uM 13 46 HT_.out ?_; refine uM 14 47 HT_.out ?_; refine uM 15 48 HT_.out ?_; refine uM 16 49 HT_.out ?_; refine uM 17 50 HT_.out ?_; refine uM 18 51 HT_.out ?_; refine uM 19 52 HT_.out ?_; refine pM 20 53 HT_.out ?_; refine pM 21 54 HT_.out ?_; refine uM 22 55 HT_.out ?_; refine pM 23 56 HT_.out ?_; refine pM 24 12 HT_.out ?_
  refine done_ (done_of HT_.out (by kernel_rfl)) ?_
  try go_wp2
  go_ret
  exact ⟨by first | rfl | (simp [errW_none, errW_some] <;> rfl) | (simp [*, errW_none, errW_some] <;> rfl), upB4 HB.out GE267.out GE268.out GE281.out GE287.out⟩

end Go.Proofs.Ytbmmddngadnofaa.F
