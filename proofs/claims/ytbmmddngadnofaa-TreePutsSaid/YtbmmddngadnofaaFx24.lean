-- Written by ext (this session's own program).
-- in short rows (short.py)
import Derived.Test.YtbmmddngadnofaaFx0
import Derived.Test.YtbmmddngadnofaaFx8
import Derived.Test.YtbmmddngadnofaaFx12
import Derived.Test.YtbmmddngadnofaaFx22
namespace Go.Proofs.Ytbmmddngadnofaa.F
open Go.RowKit Go.Proofs.YtbmmddngadnofaaW.PrintWords Go.Proofs.YtbmmddngadnofaaW.PrintLast Go.Proofs.YtbmmddngadnofaaW.PrintMore
attribute [local go_sem] max2_int min2_int max_two min_two max_three min_three max_four min_four   -- for this text's walks alone
set_option linter.unusedVariables false
set_option linter.unusedSimpArgs false

/-! ### plinthlaw25_awake: function 19 -/
def plinthlaw25_awake.j0 : Nat → Bool → List (List Int) → Option (Bool)
 | 0, _, _ => none
 | k + 1, x25, x257000 => if x25 = true then (some false) else ((tree_Prove.f k x257000 4).bind fun bt258 => (if bt258.2.2 = 0 then (if (bt258.2.1.length : Int) = 2 then (if 2 < (x257000.length : Int) then (if 0 < ((rd_L1 x257000 2).length : Int) then ((tree_Proved.f k (rd (rd_L1 x257000 2) 0) 5 1 bt258.1 bt258.2.1).bind fun t266 => (some (t266 == 0))) else (none)) else (none)) else (some false)) else (some false)))
def plinthlaw25_awake.f (k : Nat)  : Option (Bool) := (tree_Make.f k (([5, 4, 3, 2, 1] : List Int))).bind fun bt252 => (if bt252.2 = 0 then (if (bt252.1.length : Int) = 3 then (if 1 < (bt252.1.length : Int) then (plinthlaw25_awake.j0 k (((rd_L1 bt252.1 1).length : Int) != 2) bt252.1) else (none)) else (plinthlaw25_awake.j0 k true bt252.1)) else (plinthlaw25_awake.j0 k true bt252.1))
theorem plinthlaw25_awake.mono_l : ∀ k, (∀ y0 y1, LeO (plinthlaw25_awake.j0 k y0 y1) (plinthlaw25_awake.j0 (k + 1) y0 y1))
 | 0 => fun _ _ r h => by simp [plinthlaw25_awake.j0] at h
 | k + 1 => by
  have ih0 := plinthlaw25_awake.mono_l k
  ·intro y0 y1
   unfold plinthlaw25_awake.j0
   repeat' first
   | (with_reducible exact ih0 _ _)
   | (with_reducible exact tree_Make.mono _ _)
   | (with_reducible exact tree_Prove.mono _ _ _)
   | (with_reducible exact tree_Proved.mono _ _ _ _ _ _)
   | (with_reducible exact LeO.refl _)
   | (with_reducible exact LeO.none _)
   | (with_reducible refine LeO.ite ?_ ?_)
   | (with_reducible refine LeO.bind ?_ (fun _ => ?_))
   | exact ih0 _ _
   | exact tree_Make.mono _ _
   | exact tree_Prove.mono _ _ _
   | exact tree_Proved.mono _ _ _ _ _ _
   | exact LeO.none _
   | refine LeO.ite ?_ ?_
   | refine LeO.bind ?_ (fun _ => ?_)
theorem plinthlaw25_awake.mono : ∀ k, LeO (plinthlaw25_awake.f k ) (plinthlaw25_awake.f (k + 1) ) := by
 intro  k
 have ih0 := plinthlaw25_awake.mono_l k
 unfold plinthlaw25_awake.f
 repeat' first
   | (with_reducible exact ih0 _ _)
   | (with_reducible exact tree_Make.mono _ _)
   | (with_reducible exact tree_Prove.mono _ _ _)
   | (with_reducible exact tree_Proved.mono _ _ _ _ _ _)
   | (with_reducible exact LeO.refl _)
   | (with_reducible exact LeO.none _)
   | (with_reducible refine LeO.ite ?_ ?_)
   | (with_reducible refine LeO.bind ?_ (fun _ => ?_))
   | exact ih0 _ _
   | exact tree_Make.mono _ _
   | exact tree_Prove.mono _ _ _
   | exact tree_Proved.mono _ _ _ _ _ _
   | exact LeO.none _
   | refine LeO.ite ?_ ?_
   | refine LeO.bind ?_ (fun _ => ?_)
def plinthlaw25_awake.T5 : Bool × List (List Nat × List Nat) := (true, [([], []), ([0], [0]), ([1], [1]), ([2], [2]), ([3, 2], [2, 3]), ([4, 2], [2, 4]), ([5, 2], [2, 5]), ([2, 6], [2, 6]), ([7, 2], [7]), ([8], [8]), ([9, 8], [8, 9]), ([10, 8], [8, 10]), ([11, 8], [8, 11]), ([12, 8], [8, 12]), ([13, 8], [8, 13]), ([8], [8]), ([14, 15, 8, 8], [8, 14, 15]), ([16, 8], [8, 16]), ([8, 17], [8, 17]), ([18, 16, 0, 1, 2, 3, 4, 5, 6, 7, 8, 9, 10, 11, 12, 13, 14, 15, 16, 17, 18], [18])])
def plinthlaw25_awake.B5 : List Nat := [0, 1, 3, 7, 15, 31, 63, 127, 255, 511, 1023, 2047, 4095, 8191, 16383, 511, 65535, 131071, 262143, 524287]
theorem plinthlaw25_awake.tab5 : rtab .any (opsOf Try.f19 5) = plinthlaw25_awake.T5 := by kernel_rfl
theorem plinthlaw25_awake.bits5 : waitsOk plinthlaw25_awake.T5.2 plinthlaw25_awake.B5 = true := by kernel_rfl
set_option maxHeartbeats 8000000 in
set_option maxRecDepth 100000 in
theorem plinthlaw25_awake.calls (k : Nat)  (r : Bool) (w : World) (h : plinthlaw25_awake.f k  = some r) :
  Calls Try.prog 19 #[] w fun e w' => e = .returned (.bool r) ∧ Below w.heap.size w w' := by
 have hu24 := Try.underlying24
 have hu27 := Try.underlying27
 have HB := Aside0.mk (Below.refl w.heap.size w)
 have H : ((tree_Make.f k (([5, 4, 3, 2, 1] : List Int))).bind fun bt252 => (if bt252.2 = 0 then (if (bt252.1.length : Int) = 3 then (if 1 < (bt252.1.length : Int) then (plinthlaw25_awake.j0 k (((rd_L1 bt252.1 1).length : Int) != 2) bt252.1) else (none)) else (plinthlaw25_awake.j0 k true bt252.1)) else (plinthlaw25_awake.j0 k true bt252.1))) = some r := h
 clear h
 obtain ⟨y249, hy249⟩ : ∃ y_ : List Int, y_ = (([5, 4, 3, 2, 1] : List Int)) := ⟨_, rfl⟩
 replace H : ((tree_Make.f k y249).bind fun bt252 => (if bt252.2 = 0 then (if (bt252.1.length : Int) = 3 then (if 1 < (bt252.1.length : Int) then (plinthlaw25_awake.j0 k (((rd_L1 bt252.1 1).length : Int) != 2) bt252.1) else (none)) else (plinthlaw25_awake.j0 k true bt252.1)) else (plinthlaw25_awake.j0 k true bt252.1))) = some r := by first | (rw [hy249]; with_reducible exact H) | (have H2_ := (Option.bind_some _ _).symm.trans H; rw [hy249]; with_reducible exact H2_) | (have H2_ := (Option.bind_some _ _).symm.trans H; with_reducible exact H2_) | with_reducible exact H | (rw [hy249]; exact H) | exact H
 have Ny249 := Aside0.mk hy249
 clear hy249
 replace H := Option.bind_eq_some_iff.mp H
 obtain ⟨⟨t252, t255⟩, A10, H⟩ := H
 replace H : (if t255 = 0 then (if (t252.length : Int) = 3 then (if 1 < (t252.length : Int) then (plinthlaw25_awake.j0 k (((rd_L1 t252 1).length : Int) != 2) t252) else (none)) else (plinthlaw25_awake.j0 k true t252)) else (plinthlaw25_awake.j0 k true t252)) = some r := H
 have A1 := Aside0.mk A10
 clear A10
 have HC2 := Aside0.mk H
 clear H
 go_enter Try.func19, Try.ntmps19
 go_upto_region 2 with (first | ((with_reducible refine gate_dst (N := 6) rfl ?_); (try (refine gate_guard (by rfl) ?_; dsimp only)); refine Kd.R_lit (Kd.int .u32) _ 25 ?hg (N := 6) ?hd (xs := ([5, 4, 3, 2, 1] : List Int)) (inner := [.int .u32 5, .int .u32 4, .int .u32 3, .int .u32 2, .int .u32 1]) (ok := fun _ => True) (okp := fun _ => True) ?hr ?hp (fun _ hk => hk) trivial (Below.refl _ _) (Nat.le_refl _) (by simp) ?_; (case hd => rfl); (case hg => rfl); (case hr => first | (go_simp; done) | (go_simp; rfl)); (case hp => exact (Reps.one (show Kd.M (Kd.int .u32) _ _ _ 5 [.int .u32 5] from rfl) (Reps.one (show Kd.M (Kd.int .u32) _ _ _ 4 [.int .u32 4] from rfl) (Reps.one (show Kd.M (Kd.int .u32) _ _ _ 3 [.int .u32 3] from rfl) (Reps.one (show Kd.M (Kd.int .u32) _ _ _ 2 [.int .u32 2] from rfl) (Reps.one (show Kd.M (Kd.int .u32) _ _ _ 1 [.int .u32 1] from rfl) (Reps.none _ _))))))); intro v250 w3 ho4 hb hg_ hnew_; clear hg_ hnew_; (first | rw [← Ny249.out] at ho4 | (simp only [Int.reduceToNat] at ho4; rw [← Ny249.out] at ho4)); have HO251 := Aside0.mk (Kd.R_lower ho4 (below_size (upB0 HB.out))); replace HB := Aside0.mk (below_step (upB0 HB.out) hb); clear hb ho4; obtain ⟨Ao5, co5, eo5⟩ := Kd.R_slice HO251.out; subst eo5) | ((with_reducible refine gate_callee (f := 21) rfl ?_); refine goesL_ (some 7) rfl rfl Try.func21 (by kernel_rfl) rfl #[.slice Ao5 y249.length co5] rfl argA ?_; (with_reducible refine (tree_Make.calls k _ _ y249 t252 t255 _ ?side1 ?side2 A1.out).mono ?_); (case side1 => exact upC ((Kd.R_reads' HO251.out).2.2)); (case side2 => exact (Kd.R_reads' HO251.out).2.1); rintro e w6 ⟨v253, rfl, ho0, hb⟩; refine ⟨_, rfl, ?_⟩; have HO254 := Aside0.mk (Kd.V_lower (Kd.V_mono (ok' := fun k_ => some k_ ≠ (.slice Ao5 y249.length co5 : Value).ownBlock) ho0 (fun k_ hk_ => (Kd.fresh' (Kd.R_lt (upR HO251.out)) k_ hk_))) (below_size (upB0 HB.out))); replace HO251 := Aside0.mk (Kd.R_below (upR HO251.out) hb); replace HB := Aside0.mk (below_step (upB0 HB.out) hb); (try clear hb); (try clear hb2); (try clear hk); (try clear hi); (try clear ho0)) | ((with_reducible refine gate_dst (N := 1) rfl ?_); (try (refine gate_guard (by rfl) ?_; dsimp only)); refine box_event ?hg (N := 1) ?hd (cs := #[.slice none 0 0]) (t := 24) ?hr ?_; (case hd => rfl); (case hg => rfl); (case hr => first | (go_simp; done) | (go_simp; rfl)); intro gb256 hg w7 hbox hb; replace HO251 := Aside0.mk (Kd.R_below (upR HO251.out) hb); replace HO254 := Aside0.mk (Kd.V_below (Kd.V_elderB (upV HO254.out) gb256 (Nat.le_of_eq hg.symm)) hb); have BK256 := Aside0.mk (hbox); have GW256 := Aside0.mk ((by rw [hg]; exact (below_size (upB0 HB.out)) : w.heap.size ≤ gb256)); have GE256 := Aside0.mk ((by rw [hg]; exact (below_size (upB0 HB.out)) : w.heap.size ≤ gb256)); replace HB := Aside0.mk (below_step (upB0 HB.out) hb); clear hb hbox hg; obtain ⟨Ao8, co8, eo8⟩ := Kd.V_slice HO254.out; subst eo8; obtain ⟨hcz9_0, hfz9_0⟩ := cells1 BK256.out))
 (try simp only [Act.put, List.setIfInBounds_toArray, List.set_cons_zero, List.set_cons_succ])
 go_cut [25] (fun v25 wc => ∃ (kq : Nat) (x25_1 : Bool), v25 = .bool x25_1 ∧ Aside0 (plinthlaw25_awake.j0 kq x25_1 t252 = some r) ∧ Aside0 (kq ≤ k) ∧ Aside0 (Kd.V (Kd.slice 25 (Kd.int .u32)) 40 wc w.heap.size (fun k_ => k_ ≠ gb256) (.slice Ao8 t252.length co8) t252) ∧ Aside0 (wc.heap[gb256]? = some (.cells #[(.slice Ao8 t252.length co8)] 24 (0, 0))) ∧ Aside0 (Below w.heap.size w wc))
 case first =>
  have H := HC2.out
  clear HC2
  by_cases c10 : t255 = 0
  ·rw [if_pos c10] at H
   have c10b0 : (t255 == 0) = true := beq_iff_eq.mpr c10
   have c10b1 : (t255 != 0) = false := bne_eq_false_iff_eq.mpr c10
   clear c10
   (first | rw [c10b0] | (simp only [i64_w, i32_w]; rw [c10b0]) | skip)
   by_cases c11 : (t252.length : Int) = 3
   ·rw [if_pos c11] at H
    have c11b0 : ((t252.length : Int) == 3) = true := beq_iff_eq.mpr c11
    have c11b1 : ((t252.length : Int) != 3) = false := bne_eq_false_iff_eq.mpr c11
    clear c11
    by_cases c12 : 1 < (t252.length : Int)
    ·rw [if_pos c12] at H
     have c12b0 : decide (1 < (t252.length : Int)) = true := decide_eq_true c12
     have c12b1 : decide (1 < t252.length) = true := decide_eq_true (by omega)
     clear c12
     have H' := Aside0.mk H
     clear H
     obtain ⟨hcz13_0, hfz13_0⟩ := cells1 BK256.out
     have p257 : 0 ≤ (1 : Int) := (by omega)
     have q257 : 1 < (t252.length : Int) := of_decide_eq_true (by first | (with_reducible assumption) | assumption)
     obtain ⟨ad257, A257_0, c257_0, e257, hx257_0, hl257_0, hi257_0⟩ := at_L1 (Kd.V_reads' HO254.out).2.2 1 p257 q257
     cases e257
     (try simp only [show (1 : Int).toNat = 1 from rfl, Nat.reduceMul, Nat.reduceEqDiff, Go.Addr.add, ↓reduceIte] at hx257_0)
     have qi257 : (1 < t252.length) = True := eq_true (by omega)
     (try rw [show ((1 : Int)).toNat = 1 from rfl] at hx257_0)
     have hn257_0 : ad257.block ≠ gb256 := ext_V_blk HO254.out (fun hk => (hk.2) rfl) p257 q257
     have HR257_0 := Aside0.mk hi257_0
     have HC257_0 := Aside0.mk hl257_0
     clear hi257_0 hl257_0
     replace hx257_0 := (cell_far (p := ⟨gb256, 0, none⟩) (by first | (rw [add_block]; exact hn257_0) | (show (Addr.add _ _).block ≠ _; rw [add_block]; exact hn257_0) | exact hn257_0) (.slice (some ad257) t252.length co8)).trans hx257_0
     clear hn257_0
     replace p257 := eq_true p257
     replace q257 := eq_true q257
     go_wp2
     go_meet
     case rel => exact ⟨_, ((((rd_L1 t252 1).length : Int) != 2)), (by first | rfl | (simp; done) | (simp [*]; done)), H', ⟨by first | omega | exact Nat.le_refl _⟩, ⟨by refine upV ?_; exact Kd.V_mono (garV1 (g := gb256) (Kd.V_mono HO254.out (fun k_ hk => (⟨hk, hk.2⟩ : _ ∧ k_ ≠ gb256))) 0 (.slice (some ad257) t252.length co8)) (fun _ hk => hk.1.2)⟩, ⟨by refine upK ?_; refine blk_put (cs := #[.slice none 0 0]) ?_ 0 _ rfl; refine upK ?_; exact BK256.out⟩, ⟨upB1 HB.out GE256.out⟩⟩
    ·rw [if_neg c12] at H
     exact absurd H (by simp)
   ·rw [if_neg c11] at H
    have c11b0 : ((t252.length : Int) == 3) = false := beq_eq_false_iff_ne.mpr c11
    have c11b1 : ((t252.length : Int) != 3) = true := bne_iff_ne.mpr c11
    have H' := Aside0.mk H
    clear H
    obtain ⟨hcz14_0, hfz14_0⟩ := cells1 BK256.out
    go_wp2
    go_meet
    case rel => exact ⟨_, (true), (by first | rfl | (simp; done) | (simp [*]; done)), H', ⟨by first | omega | exact Nat.le_refl _⟩, ⟨by refine upV ?_; exact Kd.V_mono (garV1 (g := gb256) (Kd.V_mono HO254.out (fun k_ hk => (⟨hk, hk.2⟩ : _ ∧ k_ ≠ gb256))) 0 (.slice Ao8 t252.length co8)) (fun _ hk => hk.1.2)⟩, ⟨by refine upK ?_; refine blk_put (cs := #[.slice none 0 0]) ?_ 0 _ rfl; refine upK ?_; exact BK256.out⟩, ⟨upB1 HB.out GE256.out⟩⟩
  ·rw [if_neg c10] at H
   have c10b0 : (t255 == 0) = false := beq_eq_false_iff_ne.mpr c10
   have c10b1 : (t255 != 0) = true := bne_iff_ne.mpr c10
   (first | rw [c10b0] | (simp only [i64_w, i32_w]; rw [c10b0]) | skip)
   have H' := Aside0.mk H
   clear H
   go_wp2
   go_meet
   case rel => exact ⟨_, (true), (by first | rfl | (simp; done) | (simp [*]; done)), H', ⟨by first | omega | exact Nat.le_refl _⟩, ⟨by refine upV ?_; exact Kd.V_mono (garV1 (g := gb256) (Kd.V_mono HO254.out (fun k_ hk => (⟨hk, hk.2⟩ : _ ∧ k_ ≠ gb256))) 0 (.slice Ao8 t252.length co8)) (fun _ hk => hk.1.2)⟩, ⟨by refine upK ?_; refine blk_put (cs := #[.slice none 0 0]) ?_ 0 _ rfl; refine upK ?_; exact BK256.out⟩, ⟨upB1 HB.out GE256.out⟩⟩
 case rest =>
  clear HC2
  (try clear c1); (try clear c2); (try clear p2); (try clear q2); (try clear hx2); (try clear qi2); (try clear c10); (try clear c10b0); (try clear c10b1); (try clear c11); (try clear c11b0); (try clear c11b1); (try clear c12); (try clear c12b0); (try clear c12b1); (try clear hcz13_0); (try clear hcz14_0); (try clear hcz9_0); (try clear hfz13_0); (try clear hfz14_0); (try clear hfz9_0); (try clear hx257_0); (try clear p257); (try clear q257)
  obtain ⟨kq, x25_1, rfl, HA, HJ1, HO_257000, BK256, HB⟩ := hcut
  cases kq with
  | zero => exact absurd HA.out (by simp [plinthlaw25_awake.j0])
  | succ kj1 =>
   have H := HA.out
   clear HA
   simp only [plinthlaw25_awake.j0] at H
   by_cases c15 : x25_1 = true
   ·subst c15
    have H1 : (some false) = some r := by rw [if_pos rfl] at H; exact H
    clear H
    have H := H1
    clear H1
    obtain rfl := Option.some.inj H
    go_wp2
    go_ret
    exact ⟨by first | rfl | (simp [errW_none, errW_some] <;> rfl) | (simp [*, errW_none, errW_some] <;> rfl), upB1 HB.out GE256.out⟩
   ·replace c15 := Bool.eq_false_iff.mpr c15
    subst c15
    have H1 : ((tree_Prove.f kj1 t252 4).bind fun bt258 => (if bt258.2.2 = 0 then (if (bt258.2.1.length : Int) = 2 then (if 2 < (t252.length : Int) then (if 0 < ((rd_L1 t252 2).length : Int) then ((tree_Proved.f kj1 (rd (rd_L1 t252 2) 0) 5 1 bt258.1 bt258.2.1).bind fun t266 => (some (t266 == 0))) else (none)) else (none)) else (some false)) else (some false))) = some r := by rw [if_neg (show ¬ (false = true) by decide)] at H; exact H
    clear H
    have H := H1
    clear H1
    replace H := Option.bind_eq_some_iff.mp H
    obtain ⟨⟨t258, t259, t262⟩, A160, H⟩ := H
    replace H : (if t262 = 0 then (if (t259.length : Int) = 2 then (if 2 < (t252.length : Int) then (if 0 < ((rd_L1 t252 2).length : Int) then ((tree_Proved.f kj1 (rd (rd_L1 t252 2) 0) 5 1 t258 t259).bind fun t266 => (some (t266 == 0))) else (none)) else (none)) else (some false)) else (some false)) = some r := H
    have A16 := Aside0.mk A160
    clear A160
    by_cases c17 : t262 = 0
    ·rw [if_pos c17] at H
     have c17b0 : (t262 == 0) = true := beq_iff_eq.mpr c17
     have c17b1 : (t262 != 0) = false := bne_eq_false_iff_eq.mpr c17
     clear c17
     by_cases c18 : (t259.length : Int) = 2
     ·rw [if_pos c18] at H
      have c18b0 : ((t259.length : Int) == 2) = true := beq_iff_eq.mpr c18
      have c18b1 : ((t259.length : Int) != 2) = false := bne_eq_false_iff_eq.mpr c18
      clear c18
      by_cases c19 : 2 < (t252.length : Int)
      ·rw [if_pos c19] at H
       have c19b0 : decide (2 < (t252.length : Int)) = true := decide_eq_true c19
       have c19b1 : decide (2 < t252.length) = true := decide_eq_true (by omega)
       clear c19
       by_cases c20 : 0 < ((rd_L1 t252 2).length : Int)
       ·rw [if_pos c20] at H
        have c20b0 : decide (0 < ((rd_L1 t252 2).length : Int)) = true := decide_eq_true c20
        have c20b1 : decide (0 < (rd_L1 t252 2).length) = true := decide_eq_true (by omega)
        clear c20
        replace H := Option.bind_eq_some_iff.mp H
        obtain ⟨t266, A210, H⟩ := H
        replace H : (some (t266 == 0)) = some r := H
        have A21 := Aside0.mk A210
        clear A210
        obtain rfl := Option.some.inj H
        obtain ⟨hcz22_0, hfz22_0⟩ := cells1 BK256.out
        try go_wp2_with (first | ((with_reducible refine gate_callee (f := 14) rfl ?_); refine goesL_ (some 28) rfl rfl Try.func14 (by kernel_rfl) rfl #[.agg #[.slice Ao8 t252.length co8], .int .i64 4] rfl argA ?_; (with_reducible refine (tree_Prove.calls kj1 _ _ t252 4 t258 t259 t262 _ ?side1 ?side2 A16.out).mono ?_); (case side1 => exact upC ((Kd.V_reads' HO_257000.out).2.2)); (case side2 => exact (Kd.V_reads' HO_257000.out).2.1); rintro e w23 ⟨v260, rfl, ho0, hb⟩; refine ⟨_, rfl, ?_⟩; replace HO_257000 := Aside0.mk (Kd.V_elder' (upV HO_257000.out) (Kd.S_base ho0) hb); have HO261 := Aside0.mk (Kd.S_lower ho0 (below_size (upB1 HB.out GE256.out))); replace BK256 := Aside0.mk (blk_below (upK BK256.out) hb); replace HB := Aside0.mk (below_step (upB1 HB.out GE256.out) hb); (try clear hb); (try clear hb2); (try clear hk); (try clear hi); (try clear ho0)) | ((with_reducible refine gate_dst (N := 3) rfl ?_); (try (refine gate_guard (by rfl) ?_; dsimp only)); refine box_event ?hg (N := 3) ?hd (cs := #[.int .i64 0, .slice none 0 0]) (t := 27) ?hr ?_; (case hd => rfl); (case hg => rfl); (case hr => first | (go_simp; done) | (go_simp; rfl)); intro gb263 hg w24 hbox hb; replace HO_257000 := Aside0.mk (Kd.V_below (Kd.V_elderB (upV HO_257000.out) gb263 (Nat.le_of_eq hg.symm)) hb); replace HO261 := Aside0.mk (Kd.S_below (by (with_reducible repeat (first | apply Kd.S_alloc | apply Kd.S_drewN | apply Kd.S_drew)); exact HO261.out) hb); have BK263 := Aside0.mk (hbox); have GW263 := Aside0.mk ((by rw [hg]; exact (below_size (upB1 HB.out GE256.out)) : w.heap.size ≤ gb263)); have GE263 := Aside0.mk ((by rw [hg]; exact (below_size (upB1 HB.out GE256.out)) : w.heap.size ≤ gb263)); replace HB := Aside0.mk (below_step (upB1 HB.out GE256.out) hb); have NB256_263 := Aside0.mk ((by rw [hg]; exact Nat.ne_of_lt (blk_lt (upK BK256.out)) : gb256 ≠ gb263)); have NB263_256 := Aside0.mk ((by rw [hg]; exact Nat.ne_of_gt (blk_lt (upK BK256.out)) : gb263 ≠ gb256)); replace BK256 := Aside0.mk (blk_below (upK BK256.out) hb); clear hb hbox hg; have hnb25 := NB263_256.out; have hnc25 := NB256_263.out; obtain ⟨hcz26_0, hcz26_1, hfz26_0, hfz26_1⟩ := cells2 BK263.out; obtain ⟨Ao27, co27, eo27⟩ := Kd.S_slice HO261.out; subst eo27))
        have n0_ : Aside0 (Kd.V (Kd.slice 25 (Kd.int .u32)) 40 ((w24.setCell ⟨gb263, 0, none⟩ (.int .i64 t258)).setCell ⟨gb263, 1, none⟩ (.slice Ao27 t259.length co27)) w.heap.size (fun k_ => some k_ ≠ (.slice Ao27 t259.length co27 : Value).ownBlock ∧ k_ ≠ gb256 ∧ k_ ≠ gb263) (.slice Ao8 t252.length co8) t252) := ⟨by refine upV ?_; exact Kd.V_mono (garV2 (g := gb263) (Kd.V_mono HO_257000.out (fun k_ hk => (⟨hk, hk.2⟩ : _ ∧ k_ ≠ gb263))) 0 (.int .i64 t258) 1 (.slice Ao27 t259.length co27)) (fun _ hk => ⟨hk.1.1.2, ⟨hk.1.1.1, hk.1.2⟩⟩)⟩
        have n1_ : Aside0 (Kd.S (Kd.slice 25 (Kd.int .u32)) 40 ((w24.setCell ⟨gb263, 0, none⟩ (.int .i64 t258)).setCell ⟨gb263, 1, none⟩ (.slice Ao27 t259.length co27)) w.heap.size (fun _ => True) (.slice Ao27 t259.length co27) t259) := ⟨by (with_reducible repeat (first | apply Kd.S_alloc | apply Kd.S_drewN | apply Kd.S_drew)); exact Kd.S_mono (Kd.S_far (p := ⟨gb263, 1, none⟩) (Kd.S_far (p := ⟨gb263, 0, none⟩) (Kd.S_types HO261.out BK263.out (by decide)) (fun _ hk => hk.2) (.int .i64 t258)) (fun _ hk => hk.2) (.slice Ao27 t259.length co27)) (fun _ hk => trivial)⟩
        have n2_ : Aside0 (((w24.setCell ⟨gb263, 0, none⟩ (.int .i64 t258)).setCell ⟨gb263, 1, none⟩ (.slice Ao27 t259.length co27)).heap[gb256]? = some (.cells #[.slice Ao8 t252.length co8] 24 (0, 0))) := ⟨by refine upK ?_; refine blk_far ?_ NB256_263.out _; refine upK ?_; refine blk_far ?_ NB256_263.out _; refine upK ?_; exact BK256.out⟩
        have n3_ : Aside0 (((w24.setCell ⟨gb263, 0, none⟩ (.int .i64 t258)).setCell ⟨gb263, 1, none⟩ (.slice Ao27 t259.length co27)).heap[gb263]? = some (.cells #[.int .i64 t258, .slice Ao27 t259.length co27] 27 (0, 0))) := ⟨by refine upK ?_; refine blk_put (cs := #[.int .i64 t258, .slice none 0 0]) ?_ 1 _ rfl; refine upK ?_; refine blk_put (cs := #[.int .i64 0, .slice none 0 0]) ?_ 0 _ rfl; refine upK ?_; exact BK263.out⟩
        have n4_ : Aside0 (Below w.heap.size w ((w24.setCell ⟨gb263, 0, none⟩ (.int .i64 t258)).setCell ⟨gb263, 1, none⟩ (.slice Ao27 t259.length co27))) := ⟨upB2 HB.out GE256.out GE263.out⟩
        (try clear HO_257000); (try clear HO261); (try clear BK256); (try clear BK263); (try clear HB)
        generalize ((w24.setCell ⟨gb263, 0, none⟩ (.int .i64 t258)).setCell ⟨gb263, 1, none⟩ (.slice Ao27 t259.length co27)) = w28 at n0_ n1_ n2_ n3_ n4_ ⊢
        have HO_257000 := n0_
        have HO261 := n1_
        have BK256 := n2_
        have BK263 := n3_
        have HB := n4_
        clear n0_ n1_ n2_ n3_ n4_
        replace HO_257000 := Aside0.mk (Kd.V_drew HO_257000.out)
        replace HO261 := Aside0.mk (Kd.S_drew HO261.out)
        replace BK256 := Aside0.mk (blk_drew BK256.out)
        replace BK263 := Aside0.mk (blk_drew BK263.out)
        replace HB := Aside0.mk (below_drew1 HB.out)
        have p264 : 0 ≤ (2 : Int) := (by omega)
        have q264 : 2 < (t252.length : Int) := of_decide_eq_true (by first | (with_reducible assumption) | assumption)
        obtain ⟨ad264, A264_0, c264_0, e264, hx264_0, hl264_0, hi264_0⟩ := at_L1 (Kd.V_reads' HO_257000.out).2.2 2 p264 q264
        cases e264
        obtain ⟨ce264, hce264, hMe264, hcc264⟩ := Kd.V_get HO_257000.out [] 2 p264 (by first | exact q264 | exact of_decide_eq_true (by first | (with_reducible assumption) | assumption) | (have e_ := (Kd.V_reads' HO_257000.out).1; omega))
        obtain ⟨ua264_0, uc264_0, rfl, ul264_0, ge264_0⟩ := Kd.FK_slice_open hMe264
        have hv264_0 := hcc264 0 _ rfl
        rw [Nat.add_zero, show ((Kd.slice 25 (Kd.int .u32))).sz = 1 from rfl, Nat.mul_one] at hv264_0
        replace hv264_0 := Option.some.inj (hv264_0.symm.trans hx264_0)
        injection hv264_0 with hva_ hvn_ hvc_
        rw [hva_] at ge264_0
        rw [hvc_] at ul264_0
        have HL264_0 := Aside0.mk (show Kd.V (Kd.int .u32) 25 _ w.heap.size _ _ (rd_L1 t252 2) from Kd.V_mk ul264_0 ge264_0)
        clear hva_ hvn_ hvc_ ge264_0 ul264_0
        clear hcc264 hce264
        (try simp only [show (2 : Int).toNat = 2 from rfl, Nat.reduceMul, Nat.reduceEqDiff, Go.Addr.add, ↓reduceIte] at hx264_0)
        have qi264 : (2 < t252.length) = True := eq_true (by omega)
        (try rw [show ((2 : Int)).toNat = 2 from rfl] at hx264_0)
        have HR264_0 := Aside0.mk hi264_0
        have HC264_0 := Aside0.mk hl264_0
        clear hi264_0 hl264_0
        replace p264 := eq_true p264
        replace q264 := eq_true q264
        have p265 : 0 ≤ (0 : Int) := (by omega)
        have q265 : 0 < ((rd_L1 t252 2).length : Int) := of_decide_eq_true (by first | (with_reducible assumption) | assumption)
        obtain ⟨ad265, e265, hx265_0⟩ := Kd.at_int (by repeat (first | (with_reducible exact HR264_0.out) | (with_reducible refine Kd.C_alloc ?_ _) | (with_reducible refine Kd.C_drewN ?_ _) | (with_reducible refine Kd.C_drew ?_) | exact HR264_0.out)) 0 p265 q265
        cases e265
        have qi265 : (0 < (rd_L1 t252 2).length) = True := eq_true (by omega)
        (try rw [show ((0 : Int)).toNat = 0 from rfl] at hx265_0)
        (try rw [Addr.add_zero'] at hx265_0)
        replace p265 := eq_true p265
        replace q265 := eq_true q265
        refine start_ (n := 20) (S := fun w' => w'.cell? ⟨gb263, 0, none⟩ = some (.int .i64 t258) ∧ w'.cell? ⟨gb263, 1, none⟩ = some (.slice Ao27 t259.length co27) ∧ w'.cell? ⟨gb256, 0, none⟩ = some (.slice (some ad264) t252.length co8) ∧ w'.cell? ⟨ad264.block, ad264.off + 2, none⟩ = some (.slice (some ad265) (rd_L1 t252 2).length c264_0) ∧ w'.cell? ad265 = some (.int .u32 (rd (rd_L1 t252 2) 0))) (ds := []) (Array.replicate 20 false) (by kernel_rfl) rfl rfl ⟨(blk_cell BK263.out 0).trans rfl, (blk_cell BK263.out 1).trans rfl, (blk_cell BK256.out 0).trans rfl, hx264_0, hx265_0⟩ (fun hHeld => ?_); refine with_tabW plinthlaw25_awake.tab5 plinthlaw25_awake.bits5 (fun HT_ HW_ => ?_)
        generalize w28.drew = w29 at HO_257000 HO261 BK256 BK263 HB HL264_0 HR264_0 hx264_0 hx265_0 hHeld ⊢
        refine pM 0 31 HT_.out ?_; refine pM 1 32 HT_.out ?_; refine pM 2 33 HT_.out ?_; refine pM 3 34 HT_.out ?_; refine tM 4 35 HT_.out HW_.out hHeld ?_; refine pM 5 36 HT_.out ?_; refine pM 6 37 HT_.out ?_; refine pM 7 38 HT_.out ?_; refine pM 8 39 HT_.out ?_; refine pM 9 40 HT_.out ?_; refine tM 10 41 HT_.out HW_.out hHeld ?_; refine pM 11 42 HT_.out ?_; refine tM 12 43 HT_.out HW_.out hHeld ?_; refine pM 13 44 HT_.out ?_; refine tM 14 45 HT_.out HW_.out hHeld ?_; refine tM 15 46 HT_.out HW_.out hHeld ?_
        refine oM 16 47 HT_.out (fun K hK => ?_)
        refine gM Try.func17 #[.int .u32 (rd (rd_L1 t252 2) 0), .int .i64 5, .int .u32 1, .agg #[.int .i64 t258, .slice Ao27 t259.length co27]] ?_
        with_reducible refine (tree_Proved.calls kj1 (rd (rd_L1 t252 2) 0) 5 1 t258 _ _ t259 t266 _ ?side1 ?side2 A21.out).mono ?_
        (case side1 => exact upC ((Kd.S_reads' HO261.out).2.2))
        (case side2 => exact (Kd.S_reads' HO261.out).2.1)
        rintro e w30 ⟨rfl, hb⟩
        have HS3_ := (hb.cell (World.block_lt_of_cell? _ _ (hHeld.2.2.2.1))).trans (hHeld.2.2.2.1)
        have HS4_ := (hb.cell (World.block_lt_of_cell? _ _ (hHeld.2.2.2.2))).trans (hHeld.2.2.2.2)
        refine ⟨_, rfl, ?_⟩
        replace HO_257000 := Aside0.mk (Kd.V_below (upV HO_257000.out) hb)
        replace HO261 := Aside0.mk (Kd.S_below (by (with_reducible repeat (first | apply Kd.S_alloc | apply Kd.S_drewN | apply Kd.S_drew)); exact HO261.out) hb)
        replace HL264_0 := Aside0.mk (Kd.V_below (upV HL264_0.out) hb)
        replace BK256 := Aside0.mk (blk_below (upK BK256.out) hb)
        replace BK263 := Aside0.mk (blk_below (upK BK263.out) hb)
        replace HR264_0 := Aside0.mk (Kd.C_below (by repeat (first | (with_reducible exact HR264_0.out) | (with_reducible refine Kd.C_alloc ?_ _) | (with_reducible refine Kd.C_drewN ?_ _) | (with_reducible refine Kd.C_drew ?_) | exact HR264_0.out)) hb)
        replace HB := Aside0.mk (below_step (upB2 HB.out GE256.out GE263.out) hb)
        (try clear hb); (try clear hb2); (try clear hk); (try clear hi)
        refine hK.out _ _ ⟨(blk_cell BK263.out 0).trans rfl, (blk_cell BK263.out 1).trans rfl, (blk_cell BK256.out 0).trans rfl, HS3_, HS4_⟩ (fun hHeld => ?_)
        clear hK K
        refine nM 47 ?_; refine pM 17 48 HT_.out ?_; refine pM 18 49 HT_.out ?_; refine pM 19 0 HT_.out ?_
        refine done_ (done_of HT_.out (by kernel_rfl)) ?_
        try go_wp2
        go_ret
        exact ⟨by first | rfl | (simp [errW_none, errW_some] <;> rfl) | (simp [*, errW_none, errW_some] <;> rfl), upB2 HB.out GE256.out GE263.out⟩
       ·rw [if_neg c20] at H
        exact absurd H (by simp)
      ·rw [if_neg c19] at H
       exact absurd H (by simp)
     ·rw [if_neg c18] at H
      have c18b0 : ((t259.length : Int) == 2) = false := beq_eq_false_iff_ne.mpr c18
      have c18b1 : ((t259.length : Int) != 2) = true := bne_iff_ne.mpr c18
      obtain rfl := Option.some.inj H
      obtain ⟨hcz31_0, hfz31_0⟩ := cells1 BK256.out
      try go_wp2_with (first | ((with_reducible refine gate_callee (f := 14) rfl ?_); refine goesL_ (some 28) rfl rfl Try.func14 (by kernel_rfl) rfl #[.agg #[.slice Ao8 t252.length co8], .int .i64 4] rfl argA ?_; (with_reducible refine (tree_Prove.calls kj1 _ _ t252 4 t258 t259 t262 _ ?side1 ?side2 A16.out).mono ?_); (case side1 => exact upC ((Kd.V_reads' HO_257000.out).2.2)); (case side2 => exact (Kd.V_reads' HO_257000.out).2.1); rintro e w32 ⟨v260, rfl, ho0, hb⟩; refine ⟨_, rfl, ?_⟩; replace HO_257000 := Aside0.mk (Kd.V_elder' (upV HO_257000.out) (Kd.S_base ho0) hb); have HO261 := Aside0.mk (Kd.S_lower ho0 (below_size (upB1 HB.out GE256.out))); replace BK256 := Aside0.mk (blk_below (upK BK256.out) hb); replace HB := Aside0.mk (below_step (upB1 HB.out GE256.out) hb); (try clear hb); (try clear hb2); (try clear hk); (try clear hi); (try clear ho0)) | ((with_reducible refine gate_dst (N := 3) rfl ?_); (try (refine gate_guard (by rfl) ?_; dsimp only)); refine box_event ?hg (N := 3) ?hd (cs := #[.int .i64 0, .slice none 0 0]) (t := 27) ?hr ?_; (case hd => rfl); (case hg => rfl); (case hr => first | (go_simp; done) | (go_simp; rfl)); intro gb263 hg w33 hbox hb; replace HO_257000 := Aside0.mk (Kd.V_below (Kd.V_elderB (upV HO_257000.out) gb263 (Nat.le_of_eq hg.symm)) hb); replace HO261 := Aside0.mk (Kd.S_below (by (with_reducible repeat (first | apply Kd.S_alloc | apply Kd.S_drewN | apply Kd.S_drew)); exact HO261.out) hb); have BK263 := Aside0.mk (hbox); have GW263 := Aside0.mk ((by rw [hg]; exact (below_size (upB1 HB.out GE256.out)) : w.heap.size ≤ gb263)); have GE263 := Aside0.mk ((by rw [hg]; exact (below_size (upB1 HB.out GE256.out)) : w.heap.size ≤ gb263)); replace HB := Aside0.mk (below_step (upB1 HB.out GE256.out) hb); have NB256_263 := Aside0.mk ((by rw [hg]; exact Nat.ne_of_lt (blk_lt (upK BK256.out)) : gb256 ≠ gb263)); have NB263_256 := Aside0.mk ((by rw [hg]; exact Nat.ne_of_gt (blk_lt (upK BK256.out)) : gb263 ≠ gb256)); replace BK256 := Aside0.mk (blk_below (upK BK256.out) hb); clear hb hbox hg; have hnb34 := NB263_256.out; have hnc34 := NB256_263.out; obtain ⟨hcz35_0, hcz35_1, hfz35_0, hfz35_1⟩ := cells2 BK263.out; obtain ⟨Ao36, co36, eo36⟩ := Kd.S_slice HO261.out; subst eo36))
      have n0_ : Aside0 (Kd.V (Kd.slice 25 (Kd.int .u32)) 40 ((w33.setCell ⟨gb263, 0, none⟩ (.int .i64 t258)).setCell ⟨gb263, 1, none⟩ (.slice Ao36 t259.length co36)) w.heap.size (fun k_ => some k_ ≠ (.slice Ao36 t259.length co36 : Value).ownBlock ∧ k_ ≠ gb256 ∧ k_ ≠ gb263) (.slice Ao8 t252.length co8) t252) := ⟨by refine upV ?_; exact Kd.V_mono (garV2 (g := gb263) (Kd.V_mono HO_257000.out (fun k_ hk => (⟨hk, hk.2⟩ : _ ∧ k_ ≠ gb263))) 0 (.int .i64 t258) 1 (.slice Ao36 t259.length co36)) (fun _ hk => ⟨hk.1.1.2, ⟨hk.1.1.1, hk.1.2⟩⟩)⟩
      have n1_ : Aside0 (Kd.S (Kd.slice 25 (Kd.int .u32)) 40 ((w33.setCell ⟨gb263, 0, none⟩ (.int .i64 t258)).setCell ⟨gb263, 1, none⟩ (.slice Ao36 t259.length co36)) w.heap.size (fun _ => True) (.slice Ao36 t259.length co36) t259) := ⟨by (with_reducible repeat (first | apply Kd.S_alloc | apply Kd.S_drewN | apply Kd.S_drew)); exact Kd.S_mono (Kd.S_far (p := ⟨gb263, 1, none⟩) (Kd.S_far (p := ⟨gb263, 0, none⟩) (Kd.S_types HO261.out BK263.out (by decide)) (fun _ hk => hk.2) (.int .i64 t258)) (fun _ hk => hk.2) (.slice Ao36 t259.length co36)) (fun _ hk => trivial)⟩
      have n2_ : Aside0 (((w33.setCell ⟨gb263, 0, none⟩ (.int .i64 t258)).setCell ⟨gb263, 1, none⟩ (.slice Ao36 t259.length co36)).heap[gb256]? = some (.cells #[.slice Ao8 t252.length co8] 24 (0, 0))) := ⟨by refine upK ?_; refine blk_far ?_ NB256_263.out _; refine upK ?_; refine blk_far ?_ NB256_263.out _; refine upK ?_; exact BK256.out⟩
      have n3_ : Aside0 (((w33.setCell ⟨gb263, 0, none⟩ (.int .i64 t258)).setCell ⟨gb263, 1, none⟩ (.slice Ao36 t259.length co36)).heap[gb263]? = some (.cells #[.int .i64 t258, .slice Ao36 t259.length co36] 27 (0, 0))) := ⟨by refine upK ?_; refine blk_put (cs := #[.int .i64 t258, .slice none 0 0]) ?_ 1 _ rfl; refine upK ?_; refine blk_put (cs := #[.int .i64 0, .slice none 0 0]) ?_ 0 _ rfl; refine upK ?_; exact BK263.out⟩
      have n4_ : Aside0 (Below w.heap.size w ((w33.setCell ⟨gb263, 0, none⟩ (.int .i64 t258)).setCell ⟨gb263, 1, none⟩ (.slice Ao36 t259.length co36))) := ⟨upB2 HB.out GE256.out GE263.out⟩
      (try clear HO_257000); (try clear HO261); (try clear BK256); (try clear BK263); (try clear HB)
      generalize ((w33.setCell ⟨gb263, 0, none⟩ (.int .i64 t258)).setCell ⟨gb263, 1, none⟩ (.slice Ao36 t259.length co36)) = w37 at n0_ n1_ n2_ n3_ n4_ ⊢
      have HO_257000 := n0_
      have HO261 := n1_
      have BK256 := n2_
      have BK263 := n3_
      have HB := n4_
      clear n0_ n1_ n2_ n3_ n4_
      replace HO_257000 := Aside0.mk (Kd.V_drew HO_257000.out)
      replace HO261 := Aside0.mk (Kd.S_drew HO261.out)
      replace BK256 := Aside0.mk (blk_drew BK256.out)
      replace BK263 := Aside0.mk (blk_drew BK263.out)
      replace HB := Aside0.mk (below_drew1 HB.out)
      refine start_ (n := 20) (S := fun w' => w'.cell? ⟨gb263, 0, none⟩ = some (.int .i64 t258) ∧ w'.cell? ⟨gb263, 1, none⟩ = some (.slice Ao36 t259.length co36)) (ds := []) (Array.replicate 20 false) (by kernel_rfl) rfl rfl ⟨(blk_cell BK263.out 0).trans rfl, (blk_cell BK263.out 1).trans rfl⟩ (fun hHeld => ?_); refine with_tabW plinthlaw25_awake.tab5 plinthlaw25_awake.bits5 (fun HT_ HW_ => ?_)
      generalize w37.drew = w38 at HO_257000 HO261 BK256 BK263 HB hHeld ⊢
      refine pM 0 31 HT_.out ?_; refine pM 1 32 HT_.out ?_; refine pM 2 33 HT_.out ?_; refine pM 3 34 HT_.out ?_; refine tM 4 35 HT_.out HW_.out hHeld ?_; refine pM 5 36 HT_.out ?_; refine pM 6 37 HT_.out ?_; refine pM 7 38 HT_.out ?_; refine pM 8 39 HT_.out ?_; refine uM 9 40 HT_.out ?_; refine uM 10 41 HT_.out ?_; refine uM 11 42 HT_.out ?_; refine uM 12 43 HT_.out ?_; refine uM 13 44 HT_.out ?_; refine uM 14 45 HT_.out ?_; refine uM 15 46 HT_.out ?_; refine uM 16 47 HT_.out ?_; refine uM 17 48 HT_.out ?_; refine pM 18 49 HT_.out ?_; refine pM 19 0 HT_.out ?_
      refine done_ (done_of HT_.out (by kernel_rfl)) ?_
      try go_wp2
      go_ret
      exact ⟨by first | rfl | (simp [errW_none, errW_some] <;> rfl) | (simp [*, errW_none, errW_some] <;> rfl), upB2 HB.out GE256.out GE263.out⟩
    ·rw [if_neg c17] at H
     have c17b0 : (t262 == 0) = false := beq_eq_false_iff_ne.mpr c17
     have c17b1 : (t262 != 0) = true := bne_iff_ne.mpr c17
     obtain rfl := Option.some.inj H
     obtain ⟨hcz39_0, hfz39_0⟩ := cells1 BK256.out
     try go_wp2_with (first | ((with_reducible refine gate_callee (f := 14) rfl ?_); refine goesL_ (some 28) rfl rfl Try.func14 (by kernel_rfl) rfl #[.agg #[.slice Ao8 t252.length co8], .int .i64 4] rfl argA ?_; (with_reducible refine (tree_Prove.calls kj1 _ _ t252 4 t258 t259 t262 _ ?side1 ?side2 A16.out).mono ?_); (case side1 => exact upC ((Kd.V_reads' HO_257000.out).2.2)); (case side2 => exact (Kd.V_reads' HO_257000.out).2.1); rintro e w40 ⟨v260, rfl, ho0, hb⟩; refine ⟨_, rfl, ?_⟩; replace HO_257000 := Aside0.mk (Kd.V_elder' (upV HO_257000.out) (Kd.S_base ho0) hb); have HO261 := Aside0.mk (Kd.S_lower ho0 (below_size (upB1 HB.out GE256.out))); replace BK256 := Aside0.mk (blk_below (upK BK256.out) hb); replace HB := Aside0.mk (below_step (upB1 HB.out GE256.out) hb); (try clear hb); (try clear hb2); (try clear hk); (try clear hi); (try clear ho0)) | ((with_reducible refine gate_dst (N := 3) rfl ?_); (try (refine gate_guard (by rfl) ?_; dsimp only)); refine box_event ?hg (N := 3) ?hd (cs := #[.int .i64 0, .slice none 0 0]) (t := 27) ?hr ?_; (case hd => rfl); (case hg => rfl); (case hr => first | (go_simp; done) | (go_simp; rfl)); intro gb263 hg w41 hbox hb; replace HO_257000 := Aside0.mk (Kd.V_below (Kd.V_elderB (upV HO_257000.out) gb263 (Nat.le_of_eq hg.symm)) hb); replace HO261 := Aside0.mk (Kd.S_below (by (with_reducible repeat (first | apply Kd.S_alloc | apply Kd.S_drewN | apply Kd.S_drew)); exact HO261.out) hb); have BK263 := Aside0.mk (hbox); have GW263 := Aside0.mk ((by rw [hg]; exact (below_size (upB1 HB.out GE256.out)) : w.heap.size ≤ gb263)); have GE263 := Aside0.mk ((by rw [hg]; exact (below_size (upB1 HB.out GE256.out)) : w.heap.size ≤ gb263)); replace HB := Aside0.mk (below_step (upB1 HB.out GE256.out) hb); have NB256_263 := Aside0.mk ((by rw [hg]; exact Nat.ne_of_lt (blk_lt (upK BK256.out)) : gb256 ≠ gb263)); have NB263_256 := Aside0.mk ((by rw [hg]; exact Nat.ne_of_gt (blk_lt (upK BK256.out)) : gb263 ≠ gb256)); replace BK256 := Aside0.mk (blk_below (upK BK256.out) hb); clear hb hbox hg; have hnb42 := NB263_256.out; have hnc42 := NB256_263.out; obtain ⟨hcz43_0, hcz43_1, hfz43_0, hfz43_1⟩ := cells2 BK263.out; obtain ⟨Ao44, co44, eo44⟩ := Kd.S_slice HO261.out; subst eo44))
     have n0_ : Aside0 (Kd.V (Kd.slice 25 (Kd.int .u32)) 40 ((w41.setCell ⟨gb263, 0, none⟩ (.int .i64 t258)).setCell ⟨gb263, 1, none⟩ (.slice Ao44 t259.length co44)) w.heap.size (fun k_ => some k_ ≠ (.slice Ao44 t259.length co44 : Value).ownBlock ∧ k_ ≠ gb256 ∧ k_ ≠ gb263) (.slice Ao8 t252.length co8) t252) := ⟨by refine upV ?_; exact Kd.V_mono (garV2 (g := gb263) (Kd.V_mono HO_257000.out (fun k_ hk => (⟨hk, hk.2⟩ : _ ∧ k_ ≠ gb263))) 0 (.int .i64 t258) 1 (.slice Ao44 t259.length co44)) (fun _ hk => ⟨hk.1.1.2, ⟨hk.1.1.1, hk.1.2⟩⟩)⟩
     have n1_ : Aside0 (Kd.S (Kd.slice 25 (Kd.int .u32)) 40 ((w41.setCell ⟨gb263, 0, none⟩ (.int .i64 t258)).setCell ⟨gb263, 1, none⟩ (.slice Ao44 t259.length co44)) w.heap.size (fun _ => True) (.slice Ao44 t259.length co44) t259) := ⟨by (with_reducible repeat (first | apply Kd.S_alloc | apply Kd.S_drewN | apply Kd.S_drew)); exact Kd.S_mono (Kd.S_far (p := ⟨gb263, 1, none⟩) (Kd.S_far (p := ⟨gb263, 0, none⟩) (Kd.S_types HO261.out BK263.out (by decide)) (fun _ hk => hk.2) (.int .i64 t258)) (fun _ hk => hk.2) (.slice Ao44 t259.length co44)) (fun _ hk => trivial)⟩
     have n2_ : Aside0 (((w41.setCell ⟨gb263, 0, none⟩ (.int .i64 t258)).setCell ⟨gb263, 1, none⟩ (.slice Ao44 t259.length co44)).heap[gb256]? = some (.cells #[.slice Ao8 t252.length co8] 24 (0, 0))) := ⟨by refine upK ?_; refine blk_far ?_ NB256_263.out _; refine upK ?_; refine blk_far ?_ NB256_263.out _; refine upK ?_; exact BK256.out⟩
     have n3_ : Aside0 (((w41.setCell ⟨gb263, 0, none⟩ (.int .i64 t258)).setCell ⟨gb263, 1, none⟩ (.slice Ao44 t259.length co44)).heap[gb263]? = some (.cells #[.int .i64 t258, .slice Ao44 t259.length co44] 27 (0, 0))) := ⟨by refine upK ?_; refine blk_put (cs := #[.int .i64 t258, .slice none 0 0]) ?_ 1 _ rfl; refine upK ?_; refine blk_put (cs := #[.int .i64 0, .slice none 0 0]) ?_ 0 _ rfl; refine upK ?_; exact BK263.out⟩
     have n4_ : Aside0 (Below w.heap.size w ((w41.setCell ⟨gb263, 0, none⟩ (.int .i64 t258)).setCell ⟨gb263, 1, none⟩ (.slice Ao44 t259.length co44))) := ⟨upB2 HB.out GE256.out GE263.out⟩
     (try clear HO_257000); (try clear HO261); (try clear BK256); (try clear BK263); (try clear HB)
     generalize ((w41.setCell ⟨gb263, 0, none⟩ (.int .i64 t258)).setCell ⟨gb263, 1, none⟩ (.slice Ao44 t259.length co44)) = w45 at n0_ n1_ n2_ n3_ n4_ ⊢
     have HO_257000 := n0_
     have HO261 := n1_
     have BK256 := n2_
     have BK263 := n3_
     have HB := n4_
     clear n0_ n1_ n2_ n3_ n4_
     replace HO_257000 := Aside0.mk (Kd.V_drew HO_257000.out)
     replace HO261 := Aside0.mk (Kd.S_drew HO261.out)
     replace BK256 := Aside0.mk (blk_drew BK256.out)
     replace BK263 := Aside0.mk (blk_drew BK263.out)
     replace HB := Aside0.mk (below_drew1 HB.out)
     refine start_ (n := 20) (S := fun w' => True) (ds := []) (Array.replicate 20 false) (by kernel_rfl) rfl rfl trivial (fun hHeld => ?_); refine with_tabW plinthlaw25_awake.tab5 plinthlaw25_awake.bits5 (fun HT_ HW_ => ?_)
     generalize w45.drew = w46 at HO_257000 HO261 BK256 BK263 HB hHeld ⊢
     refine pM 0 31 HT_.out ?_; refine pM 1 32 HT_.out ?_; refine pM 2 33 HT_.out ?_; refine uM 3 34 HT_.out ?_; refine uM 4 35 HT_.out ?_; refine uM 5 36 HT_.out ?_; refine uM 6 37 HT_.out ?_; refine pM 7 38 HT_.out ?_; refine pM 8 39 HT_.out ?_; refine uM 9 40 HT_.out ?_; refine uM 10 41 HT_.out ?_; refine uM 11 42 HT_.out ?_; refine uM 12 43 HT_.out ?_; refine uM 13 44 HT_.out ?_; refine uM 14 45 HT_.out ?_; refine uM 15 46 HT_.out ?_; refine uM 16 47 HT_.out ?_; refine uM 17 48 HT_.out ?_; refine pM 18 49 HT_.out ?_; refine pM 19 0 HT_.out ?_
     refine done_ (done_of HT_.out (by kernel_rfl)) ?_
     try go_wp2
     go_ret
     exact ⟨by first | rfl | (simp [errW_none, errW_some] <;> rfl) | (simp [*, errW_none, errW_some] <;> rfl), upB2 HB.out GE256.out GE263.out⟩

end Go.Proofs.Ytbmmddngadnofaa.F
