-- Written by ext (this session's own program).
-- in short rows (short.py)
import Derived.Test.YtbmmddngadnofaaFx0
import Derived.Test.YtbmmddngadnofaaFx2
import Derived.Test.YtbmmddngadnofaaFx11
namespace Go.Proofs.Ytbmmddngadnofaa.F
open Go.RowKit Go.Proofs.YtbmmddngadnofaaW.PrintWords Go.Proofs.YtbmmddngadnofaaW.PrintLast Go.Proofs.YtbmmddngadnofaaW.PrintMore
attribute [local go_sem] max2_int min2_int max_two min_two max_three min_three max_four min_four   -- for this text's walks alone
set_option linter.unusedVariables false
set_option linter.unusedSimpArgs false

/-! ### tree_Prove: function 14 -/
def tree_Prove.l0 : Nat → Int → List (List Int) → Int → Int → Int → List (List Int) → Option (Int × (List (List Int)) × Int)
 | 0, _, _, _, _, _, _ => none
 | k + 1, x1, x27, x28, x29, x174000, x174001 => if x29 < x28 then (if 0 ≤ x29 then (if x29 < (x27.length : Int) then ((tree_row.f (rd_L1 x27 x29) x1).bind fun bt179 => ((slices_Clone_uint32_uint32.f bt179.1).bind fun t183 => (if x174001.length < 5864062014805 then (tree_Prove.l0 k (wrap64 (Int.tdiv x1 4)) x27 x28 (wrap64 (x29 + 1)) x174000 (x174001 ++ [t183])) else (none)))) else (none)) else (none)) else (some (x174000, x174001, 0))
def tree_Prove.f (k : Nat) (l0_0 : List (List Int)) (a1 : Int) : Option (Int × (List (List Int)) × Int) := (tree_at.f k l0_0 a1).bind fun t172 => (if t172 = 0 then (if 0 ≤ (wrap64 ((l0_0.length : Int) - 1)) then (if (wrap64 ((l0_0.length : Int) - 1)) ≤ (l0_0.length : Int) then ((some (l0_0.take ((wrap64 ((l0_0.length : Int) - 1)) : Int).toNat : List (List Int))).bind fun y174 => (tree_Prove.l0 k a1 y174 (y174.length : Int) 0 a1 ([] : List (List Int)))) else (none)) else (none)) else (some (0, ([] : List (List Int)), t172)))
theorem tree_Prove.mono_l : ∀ k, (∀ y0 y1 y2 y3 y4 y5, LeO (tree_Prove.l0 k y0 y1 y2 y3 y4 y5) (tree_Prove.l0 (k + 1) y0 y1 y2 y3 y4 y5))
 | 0 => fun _ _ _ _ _ _ r h => by simp [tree_Prove.l0] at h
 | k + 1 => by
  have ih0 := tree_Prove.mono_l k
  ·intro y0 y1 y2 y3 y4 y5
   unfold tree_Prove.l0
   repeat' first
   | (with_reducible exact ih0 _ _ _ _ _ _)
   | (with_reducible exact tree_at.mono _ _ _)
   | (with_reducible exact LeO.refl _)
   | (with_reducible exact LeO.none _)
   | (with_reducible refine LeO.ite ?_ ?_)
   | (with_reducible refine LeO.bind ?_ (fun _ => ?_))
   | exact ih0 _ _ _ _ _ _
   | exact tree_at.mono _ _ _
   | exact LeO.none _
   | refine LeO.ite ?_ ?_
   | refine LeO.bind ?_ (fun _ => ?_)
theorem tree_Prove.mono : ∀ a0 a1 k, LeO (tree_Prove.f k a0 a1) (tree_Prove.f (k + 1) a0 a1) := by
 intro a0 a1 k
 have ih0 := tree_Prove.mono_l k
 unfold tree_Prove.f
 repeat' first
   | (with_reducible exact ih0 _ _ _ _ _ _)
   | (with_reducible exact tree_at.mono _ _ _)
   | (with_reducible exact LeO.refl _)
   | (with_reducible exact LeO.none _)
   | (with_reducible refine LeO.ite ?_ ?_)
   | (with_reducible refine LeO.bind ?_ (fun _ => ?_))
   | exact ih0 _ _ _ _ _ _
   | exact tree_at.mono _ _ _
   | exact LeO.none _
   | refine LeO.ite ?_ ?_
   | refine LeO.bind ?_ (fun _ => ?_)
def tree_Prove.T9 : Bool × List (List Nat × List Nat) := (true, [([], []), ([0], [0]), ([], []), ([2], [2]), ([3], [3]), ([1, 4, 3], [1, 4]), ([0, 1, 2, 3, 4, 5], []), ([6, 5, 5, 0, 1, 2, 3, 4, 5], [5, 6])])
def tree_Prove.B9 : List Nat := [0, 1, 0, 4, 12, 31, 63, 127]
theorem tree_Prove.tab9 : rtab .any (opsOf Try.f14 9) = tree_Prove.T9 := by kernel_rfl
theorem tree_Prove.bits9 : waitsOk tree_Prove.T9.2 tree_Prove.B9 = true := by kernel_rfl
set_option maxHeartbeats 8000000 in
set_option maxRecDepth 100000 in
theorem tree_Prove.calls (k : Nat) (A0_0 : Option Addr) (c0_0 : Nat) (l0_0 : List (List Int)) (a1 : Int) (r1 : Int) (r2 : List (List Int)) (r3 : Int) (w : World) (hr0_0 : Kd.C (Kd.slice 25 (Kd.int .u32)) w A0_0 l0_0.length l0_0) (hc0_0 : l0_0.length ≤ c0_0) (h : tree_Prove.f k l0_0 a1 = some (r1, r2, r3)) :
  Calls Try.prog 14 #[.agg #[.slice A0_0 l0_0.length c0_0], .int .i64 a1] w fun e w' => ∃ v1_ : Value, e = .returned (.tuple #[.agg #[.int .i64 r1, v1_], .int .i64 r3]) ∧ Kd.S (Kd.slice 25 (Kd.int .u32)) 40 w' w.heap.size (fun _ => True) v1_ r2 ∧ Below w.heap.size w w' := by
 have hu24 := Try.underlying24
 have hu27 := Try.underlying27
 have HR0_0 := Aside0.mk hr0_0
 have HC0_0 := Aside0.mk hc0_0
 clear hr0_0 hc0_0
 have HB := Aside0.mk (Below.refl w.heap.size w)
 have H : ((tree_at.f k l0_0 a1).bind fun t172 => (if t172 = 0 then (if 0 ≤ (wrap64 ((l0_0.length : Int) - 1)) then (if (wrap64 ((l0_0.length : Int) - 1)) ≤ (l0_0.length : Int) then ((some (l0_0.take ((wrap64 ((l0_0.length : Int) - 1)) : Int).toNat : List (List Int))).bind fun y174 => (tree_Prove.l0 k a1 y174 (y174.length : Int) 0 a1 ([] : List (List Int)))) else (none)) else (none)) else (some (0, ([] : List (List Int)), t172)))) = some (r1, r2, r3) := h
 clear h
 replace H := Option.bind_eq_some_iff.mp H
 obtain ⟨t172, A30, H⟩ := H
 replace H : (if t172 = 0 then (if 0 ≤ (wrap64 ((l0_0.length : Int) - 1)) then (if (wrap64 ((l0_0.length : Int) - 1)) ≤ (l0_0.length : Int) then ((some (l0_0.take ((wrap64 ((l0_0.length : Int) - 1)) : Int).toNat : List (List Int))).bind fun y174 => (tree_Prove.l0 k a1 y174 (y174.length : Int) 0 a1 ([] : List (List Int)))) else (none)) else (none)) else (some (0, ([] : List (List Int)), t172))) = some (r1, r2, r3) := H
 have A3 := Aside0.mk A30
 clear A30
 by_cases c4 : t172 = 0
 ·rw [if_pos c4] at H
  have c4b0 : (t172 == 0) = true := beq_iff_eq.mpr c4
  have c4b1 : (t172 != 0) = false := bne_eq_false_iff_eq.mpr c4
  clear c4
  obtain ⟨ji5, hji5⟩ : ∃ j_ : Int, (wrap64 ((l0_0.length : Int) - 1)) = j_ := ⟨_, rfl⟩
  replace H : (if 0 ≤ (ji5) then (if (ji5) ≤ (l0_0.length : Int) then ((some (l0_0.take ((ji5) : Int).toNat : List (List Int))).bind fun y174 => (tree_Prove.l0 k a1 y174 (y174.length : Int) 0 a1 ([] : List (List Int)))) else (none)) else (none)) = some (r1, r2, r3) := by first | (rw [hji5] at H; exact H) | (simp only [hji5] at H ⊢; exact H)
  (try rw [hji5] at A3)
  have hji5w : (IntKind.i64.wrap ((l0_0.length : Int) - 1)) = ji5 := (i64_w _).trans hji5
  by_cases c6 : 0 ≤ (ji5)
  ·rw [if_pos c6] at H
   have c6b0 := eq_true c6
   have c6b1 : decide (0 ≤ (ji5)) = true := decide_eq_true c6
   clear c6
   by_cases c7 : (ji5) ≤ (l0_0.length : Int)
   ·rw [if_pos c7] at H
    have c7b0 := eq_true c7
    have c7b1 : decide ((ji5) ≤ (l0_0.length : Int)) = true := decide_eq_true c7
    clear c7
    obtain ⟨y174, hy174⟩ : ∃ y_ : List (List Int), y_ = (l0_0.take ((ji5) : Int).toNat) := ⟨_, rfl⟩
    replace H : (tree_Prove.l0 k a1 y174 (y174.length : Int) 0 a1 ([] : List (List Int))) = some (r1, r2, r3) := by first | (rw [hy174]; with_reducible exact H) | (have H2_ := (Option.bind_some _ _).symm.trans H; rw [hy174]; with_reducible exact H2_) | (have H2_ := (Option.bind_some _ _).symm.trans H; with_reducible exact H2_) | with_reducible exact H | (rw [hy174]; exact H) | exact H
    have Ny174 := Aside0.mk hy174
    clear hy174
    have H' := Aside0.mk H
    clear H
    go_enter Try.func14, Try.ntmps14
    go_wp2_with (first | ((with_reducible refine gate_dst (N := 2) rfl ?_); refine box_event ?hg (N := 2) ?hd (cs := #[.slice A0_0 l0_0.length c0_0]) (t := 24) ?hr ?_; (case hd => rfl); (case hg => rfl); (case hr => first | (go_simp; done) | (go_simp; rfl)); intro gb170 hg w8 hbox hb; have BK170 := Aside0.mk (hbox); have GW170 := Aside0.mk ((by rw [hg]; exact (below_size (upB0 HB.out)) : w.heap.size ≤ gb170)); have GE170 := Aside0.mk ((by rw [hg]; exact (below_size (upB0 HB.out)) : w.heap.size ≤ gb170)); replace HB := Aside0.mk (below_step (upB0 HB.out) hb); clear hb hbox hg) | ((with_reducible refine gate_dst (N := 4) rfl ?_); refine box_event ?hg (N := 4) ?hd (cs := #[.int .i64 0, .slice none 0 0]) (t := 27) ?hr ?_; (case hd => rfl); (case hg => rfl); (case hr => first | (go_simp; done) | (go_simp; rfl)); intro gb171 hg w9 hbox hb; have BK171 := Aside0.mk (hbox); have GW171 := Aside0.mk ((by rw [hg]; exact (below_size (upB1 HB.out GE170.out)) : w.heap.size ≤ gb171)); have GE171 := Aside0.mk ((by rw [hg]; exact (below_size (upB1 HB.out GE170.out)) : w.heap.size ≤ gb171)); replace HB := Aside0.mk (below_step (upB1 HB.out GE170.out) hb); have NB170_171 := Aside0.mk ((by rw [hg]; exact Nat.ne_of_lt (blk_lt (upK BK170.out)) : gb170 ≠ gb171)); have NB171_170 := Aside0.mk ((by rw [hg]; exact Nat.ne_of_gt (blk_lt (upK BK170.out)) : gb171 ≠ gb170)); replace BK170 := Aside0.mk (blk_below (upK BK170.out) hb); clear hb hbox hg; have hnb10 := NB170_171.out; have hnc10 := NB171_170.out; obtain ⟨hcz11_0, hfz11_0⟩ := cells1 BK170.out) | ((with_reducible refine gate_callee (f := 42) rfl ?_); refine goesL_ (some 14) rfl rfl Try.func42 (by kernel_rfl) rfl #[.agg #[.slice A0_0 l0_0.length c0_0], .int .i64 a1] rfl argA ?_; (with_reducible refine (tree_at.calls k _ _ l0_0 a1 t172 _ ?side1 ?side2 A3.out).mono ?_); (case side1 => exact upC ((Kd.C_below HR0_0.out HB.out))); (case side2 => exact HC0_0.out); rintro e w12 ⟨rfl, hb⟩; refine ⟨_, rfl, ?_⟩; replace BK170 := Aside0.mk (blk_below (upK BK170.out) hb); replace BK171 := Aside0.mk (blk_below (upK BK171.out) hb); replace HB := Aside0.mk (below_step (upB2 HB.out GE170.out GE171.out) hb); (try clear hb); (try clear hb2); (try clear hk); (try clear hi)) | ((with_reducible refine gate_dst (N := 7) rfl ?_); refine box_event ?hg (N := 7) ?hd (cs := #[.int .i64 0, .slice none 0 0]) (t := 27) ?hr ?_; (case hd => rfl); (case hg => rfl); (case hr => first | (go_simp; done) | (go_simp; rfl)); intro gb173 hg w13 hbox hb; have BK173 := Aside0.mk (hbox); have GW173 := Aside0.mk ((by rw [hg]; exact (below_size (upB2 HB.out GE170.out GE171.out)) : w.heap.size ≤ gb173)); have GE173 := Aside0.mk ((by rw [hg]; exact (below_size (upB2 HB.out GE170.out GE171.out)) : w.heap.size ≤ gb173)); replace HB := Aside0.mk (below_step (upB2 HB.out GE170.out GE171.out) hb); have NB170_173 := Aside0.mk ((by rw [hg]; exact Nat.ne_of_lt (blk_lt (upK BK170.out)) : gb170 ≠ gb173)); have NB173_170 := Aside0.mk ((by rw [hg]; exact Nat.ne_of_gt (blk_lt (upK BK170.out)) : gb173 ≠ gb170)); replace BK170 := Aside0.mk (blk_below (upK BK170.out) hb); have NB171_173 := Aside0.mk ((by rw [hg]; exact Nat.ne_of_lt (blk_lt (upK BK171.out)) : gb171 ≠ gb173)); have NB173_171 := Aside0.mk ((by rw [hg]; exact Nat.ne_of_gt (blk_lt (upK BK171.out)) : gb173 ≠ gb171)); replace BK171 := Aside0.mk (blk_below (upK BK171.out) hb); clear hb hbox hg; have hnb14 := NB173_170.out; have hnc14 := NB170_173.out; have hnb15 := NB173_171.out; have hnc15 := NB171_173.out; obtain ⟨hcz16_0, hcz16_1, hfz16_0, hfz16_1⟩ := cells2 BK173.out) | ((with_reducible refine gate_store (t := 27) (p := 7) rfl ?_); refine store_event (t := 27) (p := 7) (v := ?vo_w17) (w1 := ((w13.setCell ⟨gb173, 0, none⟩ (.int .i64 a1)).setCell ⟨gb173, 1, none⟩ (.slice none 0 0))) ?hg ?ho ?hn ?hr ?_; (case ho => rfl); (case hg => rfl); (case hn => rfl); (case hr => first | (go_simp; done) | (go_simp; rfl)); intro w17 hw; have n0_ : Aside0 (w17.heap[gb170]? = some (.cells #[.slice A0_0 l0_0.length c0_0] 24 (0, 0))) := ⟨(by rw [hw]; exact (by refine upK ?_; refine blk_far ?_ NB170_173.out _; refine upK ?_; refine blk_far ?_ NB170_173.out _; refine upK ?_; exact BK170.out))⟩; have n1_ : Aside0 (w17.heap[gb171]? = some (.cells #[.int .i64 0, .slice none 0 0] 27 (0, 0))) := ⟨(by rw [hw]; exact (by refine upK ?_; refine blk_far ?_ NB171_173.out _; refine upK ?_; refine blk_far ?_ NB171_173.out _; refine upK ?_; exact BK171.out))⟩; have n2_ : Aside0 (w17.heap[gb173]? = some (.cells #[.int .i64 a1, .slice none 0 0] 27 (0, 0))) := ⟨(by rw [hw]; exact (by refine upK ?_; refine blk_put (cs := #[.int .i64 a1, .slice none 0 0]) ?_ 1 _ rfl; refine upK ?_; refine blk_put (cs := #[.int .i64 0, .slice none 0 0]) ?_ 0 _ rfl; refine upK ?_; exact BK173.out))⟩; have n3_ : Aside0 (Below w.heap.size w w17) := ⟨(by rw [hw]; exact (upB3 HB.out GE170.out GE171.out GE173.out))⟩; clear hw; clear BK170; clear BK171; clear BK173; clear HB; have BK170 := n0_; have BK171 := n1_; have BK173 := n2_; have HB := n3_; clear n0_ n1_ n2_ n3_; obtain ⟨hcz18_0, hfz18_0⟩ := cells1 BK170.out; have q19 : ((ji5) : Int) ≤ ((l0_0.length : Int) : Int) := of_decide_eq_true (by first | (with_reducible assumption) | assumption); obtain ⟨i019, hi019, _, hsz19, _⟩ := info_parts info40; have hroom19 : l0_0.length ≤ c0_0 := HC0_0.out; have hC19 : Kd.C (Kd.slice 25 (Kd.int .u32)) _ A0_0 l0_0.length l0_0 := HR0_0.out; have hcut19 := cut_to (P := Try.prog) 22 40 .i64 Try.underlying22 hi019 A0_0 l0_0.length c0_0 (ji5) (of_decide_eq_true (by first | (with_reducible assumption) | assumption)) q19 hroom19; have hr19 := Kd.C_take (m := ((ji5) : Int).toNat) hC19 (by omega); have hy19 : y174.length = ((ji5) : Int).toNat := (by rw [Ny174.out, List.length_take]; omega); rw [← Ny174.out] at hr19; rw [← hy19] at hcut19; have HR177 := Aside0.mk hr19; have HC177 := Aside0.mk (show y174.length ≤ c0_0 from by omega); clear hr19 hC19 hroom19 hi019 hsz19; have KY19 := Aside0.mk hy19; clear hy19; replace q19 := eq_true q19))
    go_loopg [1, 29] k (fun kq v1 v29 w' => ∃ (x1_1 : Int) (x29_1 : Int) (x174001_1 : List (List Int)) (u174001 : Value), v1 = .int .i64 x1_1 ∧ v29 = .int .i64 x29_1 ∧ Aside0 (tree_Prove.l0 kq x1_1 y174 (y174.length : Int) x29_1 a1 x174001_1 = some (r1, r2, r3)) ∧ Aside0 (kq ≤ k) ∧ Aside0 (Kd.S (Kd.slice 25 (Kd.int .u32)) 40 w' w.heap.size (fun _ => True) u174001 x174001_1) ∧ Aside0 (w'.heap[gb170]? = some (.cells #[(.slice A0_0 l0_0.length c0_0)] 24 (0, 0))) ∧ Aside0 (w'.heap[gb171]? = some (.cells #[.int .i64 0, (.slice none 0 0)] 27 (0, 0))) ∧ Aside0 (w'.heap[gb173]? = some (.cells #[.int .i64 a1, u174001] 27 (0, 0))) ∧ Aside0 (Below w.heap.size w w'))
    case atStart => exact ⟨(a1), (0), (([] : List (List Int))), (.slice none 0 0), (by first | rfl | (simp; done) | (simp [*]; done)), (by first | rfl | (simp; done) | (simp [*]; done)), H', ⟨Nat.le_refl _⟩, ⟨by first | exact Kd.S_nil _ _ _ _ _ | exact Kd.N_nil _ _ _ _ _ | exact Kd.V_nil _ _ _ _ _ | exact Kd.Q_nil _ _ _ _ _ | exact Kd.R_nil _ _ _ _ _⟩, ⟨by refine upK ?_; exact BK170.out⟩, ⟨by refine upK ?_; exact BK171.out⟩, ⟨by refine upK ?_; exact BK173.out⟩, ⟨upB3 HB.out GE170.out GE171.out GE173.out⟩⟩
    case round =>
     clear H'
     (try clear c1); (try clear q1); (try clear p2); (try clear c4); (try clear c4b0); (try clear c4b1); (try clear c6); (try clear c6b0); (try clear c6b1); (try clear p6); (try clear c7); (try clear c7b0); (try clear c7b1); (try clear c10); (try clear c14); (try clear c15); (try clear q19); (try clear hcz11_0); (try clear hcz16_0); (try clear hcz16_1); (try clear hcz18_0); (try clear hfz11_0); (try clear hfz16_0); (try clear hfz16_1); (try clear hfz18_0); (try clear q19)
     obtain ⟨x1_1, x29_1, x174001_1, u174001, rfl, rfl, HA, HK1, HO_174001, BK170, BK171, BK173, HB⟩ := hrel
     cases gk with
     | zero => exact absurd HA.out (by simp [tree_Prove.l0])
     | succ k1 =>
      have H := HA.out
      clear HA
      simp only [tree_Prove.l0] at H
      by_cases c20 : x29_1 < (y174.length : Int)
      ·rw [if_pos c20] at H
       have c20b0 : decide (x29_1 < (y174.length : Int)) = true := decide_eq_true c20
       clear c20
       by_cases c21 : 0 ≤ x29_1
       ·rw [if_pos c21] at H
        have c21b0 : decide (0 ≤ x29_1) = true := decide_eq_true c21
        clear c21
        by_cases c22 : x29_1 < (y174.length : Int)
        ·rw [if_pos c22] at H
         have c22b0 : decide (x29_1 < (y174.length : Int)) = true := decide_eq_true c22
         clear c22
         replace H := Option.bind_eq_some_iff.mp H
         obtain ⟨⟨t179, t182⟩, A230, H⟩ := H
         replace H : ((slices_Clone_uint32_uint32.f t179).bind fun t183 => (if x174001_1.length < 5864062014805 then (tree_Prove.l0 k1 (wrap64 (Int.tdiv x1_1 4)) y174 (y174.length : Int) (wrap64 (x29_1 + 1)) a1 (x174001_1 ++ [t183])) else (none))) = some (r1, r2, r3) := H
         have A23 := Aside0.mk A230
         clear A230
         replace H := Option.bind_eq_some_iff.mp H
         obtain ⟨t183, A240, H⟩ := H
         replace H : (if x174001_1.length < 5864062014805 then (tree_Prove.l0 k1 (wrap64 (Int.tdiv x1_1 4)) y174 (y174.length : Int) (wrap64 (x29_1 + 1)) a1 (x174001_1 ++ [t183])) else (none)) = some (r1, r2, r3) := H
         have A24 := Aside0.mk A240
         clear A240
         by_cases c25 : x174001_1.length < 5864062014805
         ·rw [if_pos c25] at H
          have LMc25 := Aside0.mk c25
          clear c25
          obtain ⟨y186, hy186⟩ : ∃ y_ : List (List Int), y_ = (x174001_1 ++ [t183]) := ⟨_, rfl⟩
          replace H : (tree_Prove.l0 k1 (wrap64 (Int.tdiv x1_1 4)) y174 (y174.length : Int) (wrap64 (x29_1 + 1)) a1 y186) = some (r1, r2, r3) := by first | (rw [hy186]; with_reducible exact H) | (have H2_ := (Option.bind_some _ _).symm.trans H; rw [hy186]; with_reducible exact H2_) | (have H2_ := (Option.bind_some _ _).symm.trans H; with_reducible exact H2_) | with_reducible exact H | (rw [hy186]; exact H) | exact H
          have Ny186 := Aside0.mk hy186
          clear hy186
          have H' := Aside0.mk H
          clear H
          have p178 : 0 ≤ (x29_1 : Int) := of_decide_eq_true (by first | (with_reducible assumption) | assumption)
          have q178 : x29_1 < (y174.length : Int) := of_decide_eq_true (by first | (with_reducible assumption) | assumption)
          obtain ⟨ad178, A178_0, c178_0, e178, hx178_0, hl178_0, hi178_0⟩ := at_L1 HR177.out x29_1 p178 q178
          cases e178
          replace hx178_0 := (HB.out.cell (World.block_lt_of_cell? w _ hx178_0)).trans hx178_0
          have HR178_0 := Aside0.mk hi178_0
          have HC178_0 := Aside0.mk hl178_0
          clear hi178_0 hl178_0
          replace p178 := eq_true p178
          replace q178 := eq_true q178
          try go_wp2_with (first | ((with_reducible refine gate_callee (f := 43) rfl ?_); refine goesL_ (some 36) rfl rfl Try.func43 (by kernel_rfl) rfl #[.slice A178_0 (rd_L1 y174 x29_1).length c178_0, .int .i64 x1_1] rfl argA ?_; (with_reducible refine (tree_row.calls (fun k_ => k_ < w.heap.size) _ _ (rd_L1 y174 x29_1) x1_1 t179 t182 _ ?side1 A23.out).mono ?_); (case side1 => exact Kd.V_mk HC178_0.out (Kd.F_below (Kd.C_F (Kd.heap_int .u32) HR178_0.out) (upB3 HB.out GE170.out GE171.out GE173.out))); rintro e w26 ⟨v180, rfl, ho0, hb⟩; refine ⟨_, rfl, ?_⟩; have HO181 := Aside0.mk (Kd.V_lower (Kd.V_mono (ok' := fun k_ => some k_ ≠ (u174001 : Value).ownBlock ∧ k_ ≠ gb170 ∧ k_ ≠ gb171 ∧ k_ ≠ gb173) ho0 (fun k_ hk_ => ⟨Or.elim hk_ (fun hs_ => fun e_ => Nat.not_le.2 hs_ (Kd.S_base HO_174001.out k_ e_.symm)) (fun hn_ => (Kd.fresh' (Kd.S_lt (by (with_reducible repeat (first | apply Kd.S_alloc | apply Kd.S_drewN | apply Kd.S_drew)); exact HO_174001.out)) k_ hn_)), Or.elim hk_ (fun hs_ => fun e_ => Nat.not_le.2 hs_ (by rw [e_]; exact GW170.out)) (fun hn_ => (Kd.freshB (upK BK170.out) k_ hn_)), Or.elim hk_ (fun hs_ => fun e_ => Nat.not_le.2 hs_ (by rw [e_]; exact GW171.out)) (fun hn_ => (Kd.freshB (upK BK171.out) k_ hn_)), Or.elim hk_ (fun hs_ => fun e_ => Nat.not_le.2 hs_ (by rw [e_]; exact GW173.out)) (fun hn_ => (Kd.freshB (upK BK173.out) k_ hn_))⟩)) (below_size (upB3 HB.out GE170.out GE171.out GE173.out))); replace HO_174001 := Aside0.mk (Kd.S_below (by (with_reducible repeat (first | apply Kd.S_alloc | apply Kd.S_drewN | apply Kd.S_drew)); exact HO_174001.out) hb); replace BK170 := Aside0.mk (blk_below (upK BK170.out) hb); replace BK171 := Aside0.mk (blk_below (upK BK171.out) hb); replace BK173 := Aside0.mk (blk_below (upK BK173.out) hb); replace HB := Aside0.mk (below_step (upB3 HB.out GE170.out GE171.out GE173.out) hb); (try clear hb); (try clear hb2); (try clear hk); (try clear hi); (try clear ho0)))
          replace HO_174001 := Aside0.mk (Kd.S_drew HO_174001.out)
          replace HO181 := Aside0.mk (Kd.V_drew HO181.out)
          replace BK170 := Aside0.mk (blk_drew BK170.out)
          replace BK171 := Aside0.mk (blk_drew BK171.out)
          replace BK173 := Aside0.mk (blk_drew BK173.out)
          replace HB := Aside0.mk (below_drew1 HB.out)
          obtain ⟨Ao28, co28, eo28⟩ := Kd.V_slice HO181.out
          (first | subst eo28 | (injection eo28 with f1_ f2_ f3_; have f4_ := f1_.symm; have f5_ := f3_.symm; clear f1_ f2_ f3_; subst f4_; subst f5_))
          refine start_ (n := 8) (S := fun w' => w'.cell? ⟨gb173, 0, none⟩ = some (.int .i64 a1) ∧ w'.cell? ⟨gb173, 1, none⟩ = some (u174001)) (ds := [7]) (Array.replicate 8 false) (by kernel_rfl) rfl rfl ⟨(blk_cell BK173.out 0).trans rfl, (blk_cell BK173.out 1).trans rfl⟩ (fun hHeld => ?_); refine with_tabW tree_Prove.tab9 tree_Prove.bits9 (fun HT_ HW_ => ?_)
          generalize w26.drew = w27 at HO_174001 HO181 BK170 BK171 BK173 HB hHeld ⊢
          refine pM 0 39 HT_.out ?_; refine pM 2 41 HT_.out ?_; refine tM 1 40 HT_.out HW_.out hHeld ?_
          refine oM 3 42 HT_.out (fun K hK => ?_)
          refine gM Try.func44 #[.slice Ao28 t179.length co28] ?_
          with_reducible refine (slices_Clone_uint32_uint32.calls _ _ t179 t183 _ ?side1 ?side2 A24.out).mono ?_
          (case side1 => exact upC ((Kd.V_reads' HO181.out).2.2))
          (case side2 => exact (Kd.V_reads' HO181.out).2.1)
          rintro e w29 ⟨v184, rfl, ho0, hb⟩
          refine ⟨_, rfl, ?_⟩
          replace HO_174001 := Aside0.mk (Kd.S_elder' (by (with_reducible repeat (first | apply Kd.S_alloc | apply Kd.S_drewN | apply Kd.S_drew)); exact HO_174001.out) (Kd.R_base ho0) hb)
          replace HO181 := Aside0.mk (Kd.V_elder' (upV HO181.out) (Kd.R_base ho0) hb)
          have HO185 := Aside0.mk (Kd.R_lower ho0 (below_size (upB3 HB.out GE170.out GE171.out GE173.out)))
          replace BK170 := Aside0.mk (blk_below (upK BK170.out) hb)
          replace BK171 := Aside0.mk (blk_below (upK BK171.out) hb)
          replace BK173 := Aside0.mk (blk_below (upK BK173.out) hb)
          replace HB := Aside0.mk (below_step (upB3 HB.out GE170.out GE171.out GE173.out) hb)
          (try clear hb); (try clear hb2); (try clear hk); (try clear hi); (try clear ho0)
          obtain ⟨Ao31, co31, eo31⟩ := Kd.R_slice HO185.out
          (first | subst eo31 | (injection eo31 with f1_ f2_ f3_; have f4_ := f1_.symm; have f5_ := f3_.symm; clear f1_ f2_ f3_; subst f4_; subst f5_))
          refine hK.out _ _ ⟨(blk_cell BK173.out 0).trans rfl, (blk_cell BK173.out 1).trans rfl⟩ (fun hHeld => ?_)
          clear hK K
          refine nM 42 ?_
          refine oM 4 43 HT_.out (fun K hK => ?_)
          refine value_ (w1 := ?_) (v := ?_) (by rfl) rfl ?_ ?_
          rotate_left 2
          ·go_simp
           constructor
           ·rfl
           ·rfl
          refine hK.out _ _ ⟨(blk_cell (blk_alloc BK173.out _) 0).trans rfl, (blk_cell (blk_alloc BK173.out _) 1).trans rfl⟩ (fun hHeld => ?_)
          clear hK K
          refine nM 43 ?_
          refine oM 5 44 HT_.out (fun K hK => ?_)
          refine Kd.S_append_step (Kd.slice 25 (Kd.int .u32)) (w0 := w) w.heap.size (by rfl) (.tmp 40) (.tmp 43) 22 40 (.slice none 0 0) 24 rfl Try.underlying22 info40 rfl (by decide) (by omega) u174001 x174001_1 t183 [.slice Ao31 t183.length co31] (fun _ => True) (fun k_ => some k_ = (.slice Ao31 t183.length co31 : Value).ownBlock) rfl rfl ?aP (fun k_ hk_ => ((Kd.R_mono (ok' := fun k_ => ((fun _ => True)) k_ ∧ some k_ ≠ (u174001 : Value).ownBlock) (Kd.R_apart' (HO185.out) (Kd.S_typed HO_174001.out) (by decide)) (fun k_ hk => ⟨trivial, hk.2⟩))).1 k_ hk_.symm) ?aF ?aO ?aB ?aS ?aL ?_
          (case aP => exact Kd.M_row (Kd.R_mono (Kd.R_tight rfl (Kd.R_mono (ok' := fun k_ => ((fun _ => True)) k_ ∧ some k_ ≠ (u174001 : Value).ownBlock) (Kd.R_apart' (HO185.out) (Kd.S_typed HO_174001.out) (by decide)) (fun k_ hk => ⟨trivial, hk.2⟩))) (fun _ h_ => h_)))
          (case aB => exact (upB3 HB.out GE170.out GE171.out GE173.out))
          (case aF => exact (fun _ _ => trivial))
          (case aO => exact (by (with_reducible repeat (first | apply Kd.S_alloc | apply Kd.S_drewN | apply Kd.S_drew)); exact Kd.S_mono HO_174001.out (fun k_ hk => ⟨trivial, fun e_ => hk.2 e_⟩)))
          (case aS => exact (below_size (upB3 HB.out GE170.out GE171.out GE173.out)))
          (case aL => have := LMc25.out; omega)
          intro v187 w30 ho hb hg hat
          rw [← Ny186.out] at ho
          have n0_ := Aside0.mk (blk_grown (upK BK170.out) hg (Kd.S_ne HO_174001.out BK170.out (by decide)))
          have n1_ := Aside0.mk (blk_grown (upK BK171.out) hg (Kd.S_ne HO_174001.out BK171.out (by decide)))
          have n2_ := Aside0.mk (blk_grown (upK BK173.out) hg (Kd.S_ne HO_174001.out BK173.out (by decide)))
          have n3_ := Aside0.mk (Kd.V_afterv (ok := (fun k_ => some k_ ≠ (.slice Ao31 t183.length co31 : Value).ownBlock ∧ k_ ≠ gb170 ∧ k_ ≠ gb171 ∧ k_ ≠ gb173)) (by refine upV ?_; exact Kd.V_mono HO181.out (fun _ hk => ⟨⟨hk.2, ⟨hk.1.2.1, ⟨hk.1.2.2.1, hk.1.2.2.2⟩⟩⟩, hk.1.1⟩)) hg hat)
          have n4_ := Aside0.mk (hb)
          have n5_ := Aside0.mk (ho)
          clear BK170
          clear BK171
          clear BK173
          clear HO181
          clear HB
          clear HO_174001
          clear HO185
          have BK170 := n0_
          have BK171 := n1_
          have BK173 := n2_
          have HO181 := n3_
          have HB := n4_
          have HO188 := n5_
          clear n0_ n1_ n2_ n3_ n4_ n5_
          clear ho hb hg hat
          obtain ⟨Ao32, co32, eo32⟩ := Kd.S_slice HO188.out
          (first | subst eo32 | (injection eo32 with f1_ f2_ f3_; have f4_ := f1_.symm; have f5_ := f3_.symm; clear f1_ f2_ f3_; subst f4_; subst f5_))
          refine hK.out _ _ ⟨(blk_cell BK173.out 0).trans rfl, (blk_cell BK173.out 1).trans rfl⟩ (fun hHeld => ?_)
          clear hK K
          refine nM 44 ?_; refine pM 6 45 HT_.out ?_
          refine last_ (i := 7) (N := none) #[true, true, true, true, true, true, true, true] rfl rfl (one_of HT_.out (by kernel_rfl)) (by decide) (fun K hK => ?_)
          have hs33 : w30.cell? ⟨gb173, 1, none⟩ = some (u174001) := (blk_cell BK173.out 1).trans rfl
          have hfs33 := blk_frozen BK173.out 1
          have hns33_0 := NB170_173.out
          have hns33_1 := NB171_173.out
          have hms33_0 := NB173_170.out
          have hms33_1 := NB173_171.out
          refine skip_ (w1 := ?_) (by rfl) rfl ?_ ?_
          rotate_left
          ·go_simp
           rfl
          refine hK.out _ _ ?_
          clear hK K
          refine done_ (done_of HT_.out (by kernel_rfl)) ?_
          try go_wp2
          go_roundg k1
          case measure => have := HK1.out; omega
          case rel => exact ⟨(wrap64 (Int.tdiv x1_1 4)), (wrap64 (x29_1 + 1)), (y186), (.slice Ao32 y186.length co32), (by first | rfl | (simp; done) | (simp [*]; done)), (by first | rfl | (simp; done) | (simp [*]; done)), H', ⟨by have := HK1.out; omega⟩, ⟨by (with_reducible repeat (first | apply Kd.S_alloc | apply Kd.S_drewN | apply Kd.S_drew)); exact Kd.S_mono (Kd.S_far (p := ⟨gb173, 1, none⟩) (Kd.S_types HO188.out BK173.out (by decide)) (fun _ hk => hk.2) (.slice Ao32 y186.length co32)) (fun _ hk => trivial)⟩, ⟨by refine upK ?_; refine blk_far ?_ NB170_173.out _; refine upK ?_; exact BK170.out⟩, ⟨by refine upK ?_; refine blk_far ?_ NB171_173.out _; refine upK ?_; exact BK171.out⟩, ⟨by refine upK ?_; refine blk_put (cs := #[.int .i64 a1, u174001]) ?_ 1 _ rfl; refine upK ?_; exact BK173.out⟩, ⟨upB3 HB.out GE170.out GE171.out GE173.out⟩⟩
         ·rw [if_neg c25] at H
          exact absurd H (by simp)
        ·rw [if_neg c22] at H
         exact absurd H (by simp)
       ·rw [if_neg c21] at H
        exact absurd H (by simp)
      ·rw [if_neg c20] at H
       have c20b0 : decide (x29_1 < (y174.length : Int)) = false := decide_eq_false c20
       clear c20
       simp only [Option.some.injEq, Prod.mk.injEq] at H
       obtain ⟨rfl, rfl, rfl⟩ := H
       have hnb34 := NB173_170.out
       have hnc34 := NB170_173.out
       have hnb35 := NB173_171.out
       have hnc35 := NB171_173.out
       obtain ⟨hcz36_0, hcz36_1, hfz36_0, hfz36_1⟩ := cells2 BK173.out
       have hnb37 := NB171_170.out
       have hnc37 := NB170_171.out
       obtain ⟨hcz38_0, hcz38_1, hfz38_0, hfz38_1⟩ := cells2 BK171.out
       obtain ⟨Ao39, co39, eo39⟩ := Kd.S_slice HO_174001.out
       subst eo39
       go_wp2
       refine bodyPost_ret (results_ct rfl _ _ gb171 27 #[.int .i64 a1, .slice Ao39 x174001_1.length co39] (0, 0) _ rfl (by refine upK ?_; refine blk_put (cs := #[.int .i64 a1, .slice none 0 0]) ?_ 1 _ rfl; refine upK ?_; refine blk_put (cs := #[.int .i64 0, .slice none 0 0]) ?_ 0 _ rfl; refine upK ?_; exact BK171.out) Try.underlying27 rfl (by kernel_rfl)) rfl ?_
       exact ⟨_, by first | rfl | (simp [errW_none, errW_some] <;> rfl) | (simp only [← hji5]; first | rfl | (simp [errW_none, errW_some] <;> rfl)) | (simp [*, errW_none, errW_some] <;> rfl), by (with_reducible repeat (first | apply Kd.S_alloc | apply Kd.S_drewN | apply Kd.S_drew)); exact Kd.S_mono (Kd.S_far (p := ⟨gb171, 1, none⟩) (Kd.S_far (p := ⟨gb171, 0, none⟩) (Kd.S_types HO_174001.out BK171.out (by decide)) (fun _ hk => hk.2) (.int .i64 a1)) (fun _ hk => hk.2) (.slice Ao39 x174001_1.length co39)) (fun _ hk => trivial), upB3 HB.out GE170.out GE171.out GE173.out⟩
   ·rw [if_neg c7] at H
    exact absurd H (by simp)
  ·rw [if_neg c6] at H
   exact absurd H (by simp)
 ·rw [if_neg c4] at H
  have c4b0 : (t172 == 0) = false := beq_eq_false_iff_ne.mpr c4
  have c4b1 : (t172 != 0) = true := bne_iff_ne.mpr c4
  simp only [Option.some.injEq, Prod.mk.injEq] at H
  obtain ⟨rfl, rfl, rfl⟩ := H
  go_enter Try.func14, Try.ntmps14
  go_wp2_with (first | ((with_reducible refine gate_dst (N := 2) rfl ?_); refine box_event ?hg (N := 2) ?hd (cs := #[.slice A0_0 l0_0.length c0_0]) (t := 24) ?hr ?_; (case hd => rfl); (case hg => rfl); (case hr => first | (go_simp; done) | (go_simp; rfl)); intro gb170 hg w40 hbox hb; have BK170 := Aside0.mk (hbox); have GW170 := Aside0.mk ((by rw [hg]; exact (below_size (upB0 HB.out)) : w.heap.size ≤ gb170)); have GE170 := Aside0.mk ((by rw [hg]; exact (below_size (upB0 HB.out)) : w.heap.size ≤ gb170)); replace HB := Aside0.mk (below_step (upB0 HB.out) hb); clear hb hbox hg) | ((with_reducible refine gate_dst (N := 4) rfl ?_); refine box_event ?hg (N := 4) ?hd (cs := #[.int .i64 0, .slice none 0 0]) (t := 27) ?hr ?_; (case hd => rfl); (case hg => rfl); (case hr => first | (go_simp; done) | (go_simp; rfl)); intro gb171 hg w41 hbox hb; have BK171 := Aside0.mk (hbox); have GW171 := Aside0.mk ((by rw [hg]; exact (below_size (upB1 HB.out GE170.out)) : w.heap.size ≤ gb171)); have GE171 := Aside0.mk ((by rw [hg]; exact (below_size (upB1 HB.out GE170.out)) : w.heap.size ≤ gb171)); replace HB := Aside0.mk (below_step (upB1 HB.out GE170.out) hb); have NB170_171 := Aside0.mk ((by rw [hg]; exact Nat.ne_of_lt (blk_lt (upK BK170.out)) : gb170 ≠ gb171)); have NB171_170 := Aside0.mk ((by rw [hg]; exact Nat.ne_of_gt (blk_lt (upK BK170.out)) : gb171 ≠ gb170)); replace BK170 := Aside0.mk (blk_below (upK BK170.out) hb); clear hb hbox hg; have hnb42 := NB170_171.out; have hnc42 := NB171_170.out; obtain ⟨hcz43_0, hfz43_0⟩ := cells1 BK170.out) | ((with_reducible refine gate_callee (f := 42) rfl ?_); refine goesL_ (some 14) rfl rfl Try.func42 (by kernel_rfl) rfl #[.agg #[.slice A0_0 l0_0.length c0_0], .int .i64 a1] rfl argA ?_; (with_reducible refine (tree_at.calls k _ _ l0_0 a1 t172 _ ?side1 ?side2 A3.out).mono ?_); (case side1 => exact upC ((Kd.C_below HR0_0.out HB.out))); (case side2 => exact HC0_0.out); rintro e w44 ⟨rfl, hb⟩; refine ⟨_, rfl, ?_⟩; replace BK170 := Aside0.mk (blk_below (upK BK170.out) hb); replace BK171 := Aside0.mk (blk_below (upK BK171.out) hb); replace HB := Aside0.mk (below_step (upB2 HB.out GE170.out GE171.out) hb); (try clear hb); (try clear hb2); (try clear hk); (try clear hi); obtain ⟨hcz45_0, hcz45_1, hfz45_0, hfz45_1⟩ := cells2 BK171.out))
  refine bodyPost_ret (results_ct rfl _ _ gb171 27 #[.int .i64 0, .slice none 0 0] (0, 0) _ rfl (by refine upK ?_; refine blk_put (cs := #[.int .i64 0, .slice none 0 0]) ?_ 1 _ rfl; refine upK ?_; refine blk_put (cs := #[.int .i64 0, .slice none 0 0]) ?_ 0 _ rfl; refine upK ?_; exact BK171.out) Try.underlying27 rfl (by kernel_rfl)) rfl ?_
  exact ⟨_, by first | rfl | (simp [errW_none, errW_some] <;> rfl) | (simp [*, errW_none, errW_some] <;> rfl), by first | exact Kd.S_nil _ _ _ _ _ | exact Kd.N_nil _ _ _ _ _ | exact Kd.V_nil _ _ _ _ _ | exact Kd.Q_nil _ _ _ _ _ | exact Kd.R_nil _ _ _ _ _, upB2 HB.out GE170.out GE171.out⟩

end Go.Proofs.Ytbmmddngadnofaa.F
