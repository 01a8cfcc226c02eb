-- Written by ext (this session's own program).
-- in short rows (short.py)
import Derived.Test.YtbmmddngadnofaaFx0
import Derived.Test.YtbmmddngadnofaaFx3
import Derived.Test.YtbmmddngadnofaaFx5
namespace Go.Proofs.Ytbmmddngadnofaa.F
open Go.RowKit Go.Proofs.YtbmmddngadnofaaW.PrintWords Go.Proofs.YtbmmddngadnofaaW.PrintLast Go.Proofs.YtbmmddngadnofaaW.PrintMore
attribute [local go_sem] max2_int min2_int max_two min_two max_three min_three max_four min_four   -- for this text's walks alone
set_option linter.unusedVariables false
set_option linter.unusedSimpArgs false

/-! ### plinthlaw25_few: function 20 -/
def plinthlaw25_few.f (l0 : List Int) : Option (List Int) := if (l0.length : Int) > 300 then (if (l0.length : Int) ≤ 4096 then (if 300 ≤ (l0.length : Int) then (some (l0.take 300)) else (none)) else (some l0)) else (some l0)
set_option maxHeartbeats 8000000 in
set_option maxRecDepth 100000 in
theorem plinthlaw25_few.calls (P0_ : Nat → Prop) (A0 : Option Addr) (c0 : Nat) (l0 : List Int) (r : List Int) (w : World) (hs0 : Kd.V (Kd.int .u32) 25 w w.heap.size (fun k_ => P0_ k_) (.slice A0 l0.length c0) l0) (h : plinthlaw25_few.f l0 = some r) :
  Calls Try.prog 20 #[.slice A0 l0.length c0] w fun e w' => ∃ v0_ : Value, e = .returned (v0_) ∧ Kd.V (Kd.int .u32) 25 w' w.heap.size (fun k_ => (P0_ k_ ∨ w.heap.size ≤ k_)) v0_ r ∧ Below w.heap.size w w' := by
 have HO0 := Aside0.mk (show Kd.V (Kd.int .u32) 25 w w.heap.size (fun k_ => (P0_ k_ ∨ w.heap.size ≤ k_)) (.slice A0 l0.length c0) l0 from Kd.V_mono hs0 (fun k_ hk => .inl hk))
 have HB := Aside0.mk (Below.refl w.heap.size w)
 have H : (if (l0.length : Int) > 300 then (if (l0.length : Int) ≤ 4096 then (if 300 ≤ (l0.length : Int) then (some (l0.take 300)) else (none)) else (some l0)) else (some l0)) = some r := h
 clear h
 by_cases c2 : (l0.length : Int) > 300
 ·rw [if_pos c2] at H
  have c2b0 : decide (300 < (l0.length : Int)) = true := decide_eq_true c2
  have c2b1 : decide (300 < l0.length) = true := decide_eq_true (by omega)
  clear c2
  by_cases c3 : (l0.length : Int) ≤ 4096
  ·rw [if_pos c3] at H
   have c3b0 : decide ((l0.length : Int) ≤ 4096) = true := decide_eq_true c3
   have c3b1 : decide (l0.length ≤ 4096) = true := decide_eq_true (by omega)
   clear c3
   by_cases c4 : 300 ≤ (l0.length : Int)
   ·rw [if_pos c4] at H
    have c4b0 := eq_true c4
    have c4b1 : decide (300 ≤ (l0.length : Int)) = true := decide_eq_true c4
    clear c4
    obtain ⟨y292, hy292⟩ : ∃ y_ : List Int, y_ = (l0.take 300) := ⟨_, rfl⟩
    replace H : (some y292) = some r := by first | (rw [hy292]; with_reducible exact H) | (have H2_ := (Option.bind_some _ _).symm.trans H; rw [hy292]; with_reducible exact H2_) | (have H2_ := (Option.bind_some _ _).symm.trans H; with_reducible exact H2_) | with_reducible exact H | (rw [hy292]; exact H) | exact H
    have Ny292 := Aside0.mk hy292
    clear hy292
    obtain rfl := Option.some.inj H
    have q5 : (300 : Int) ≤ ((l0.length : Int) : Int) := of_decide_eq_true (by first | (with_reducible assumption) | assumption)
    obtain ⟨i05, hi05, _, hsz5, _⟩ := info_parts info25
    have hroom5 : l0.length ≤ c0 := (Kd.V_reads' HO0.out).2.1
    have hC5 : Kd.F (Kd.int .u32) _ _ A0 l0.length l0 := (Kd.V_at (base := w.heap.size) HO0.out).2.2
    have hcut5 := cut_to (P := Try.prog) 40 25 .i64 Try.underlying40 hi05 A0 l0.length c0 300 (by omega) q5 hroom5
    have hr5 := Kd.F_take (m := 300) hC5 (by omega)
    have hy5 : y292.length = (300 : Int).toNat := (by rw [Ny292.out, List.length_take]; omega)
    rw [← Ny292.out] at hr5
    rw [← hy5] at hcut5
    have HO296 := Aside0.mk (show Kd.V (Kd.int .u32) 25 _ w.heap.size _ (.slice A0 y292.length c0) y292 from Kd.V_mk (by omega) hr5)
    have HC296 := Aside0.mk (show y292.length ≤ c0 from by omega)
    clear hr5 hC5 hroom5 hi05 hsz5
    have KY5 := Aside0.mk hy5
    clear hy5
    replace q5 := eq_true q5
    go_enter Try.func20, Try.ntmps20
    go_wp2
    go_ret
    exact ⟨_, by first | rfl | (simp [errW_none, errW_some] <;> rfl) | (simp [*, errW_none, errW_some] <;> rfl), by refine upV ?_; exact HO296.out, upB0 HB.out⟩
   ·rw [if_neg c4] at H
    exact absurd H (by simp)
  ·rw [if_neg c3] at H
   have c3b0 : decide ((l0.length : Int) ≤ 4096) = false := decide_eq_false c3
   have c3b1 : decide (l0.length ≤ 4096) = false := decide_eq_false (by omega)
   clear c3
   obtain rfl := Option.some.inj H
   go_enter Try.func20, Try.ntmps20
   go_wp2
   go_ret
   exact ⟨_, by first | rfl | (simp [errW_none, errW_some] <;> rfl) | (simp [*, errW_none, errW_some] <;> rfl), by refine upV ?_; exact HO0.out, upB0 HB.out⟩
 ·rw [if_neg c2] at H
  have c2b0 : decide (300 < (l0.length : Int)) = false := decide_eq_false c2
  have c2b1 : decide (300 < l0.length) = false := decide_eq_false (by omega)
  clear c2
  obtain rfl := Option.some.inj H
  go_enter Try.func20, Try.ntmps20
  go_wp2
  go_ret
  exact ⟨_, by first | rfl | (simp [errW_none, errW_some] <;> rfl) | (simp [*, errW_none, errW_some] <;> rfl), by refine upV ?_; exact HO0.out, upB0 HB.out⟩

/-! ### tree_Leaf: function 23 -/
def tree_Leaf.f (k : Nat) (a0_0 : Int) (a0_1 : Int) (l0_2 : List Int) : Option (Int) := (octets_PutAll.f k ([] : List Int) 8 (([IntKind.u64.wrap (a0_0), IntKind.u64.wrap (a0_1)] : List Int))).bind fun bt301 => ((crc_Sum.f k (([bt301.1, l0_2] : List (List Int)))).bind fun t308 => (some t308))
theorem tree_Leaf.mono : ∀ a0 a1 a2 k, LeO (tree_Leaf.f k a0 a1 a2) (tree_Leaf.f (k + 1) a0 a1 a2) := by
 intro a0 a1 a2 k
 unfold tree_Leaf.f
 repeat' first
   | (with_reducible exact crc_Sum.mono _ _)
   | (with_reducible exact octets_PutAll.mono _ _ _ _)
   | (with_reducible exact LeO.refl _)
   | (with_reducible exact LeO.none _)
   | (with_reducible refine LeO.ite ?_ ?_)
   | (with_reducible refine LeO.bind ?_ (fun _ => ?_))
   | exact crc_Sum.mono _ _
   | exact octets_PutAll.mono _ _ _ _
   | exact LeO.none _
   | refine LeO.ite ?_ ?_
   | refine LeO.bind ?_ (fun _ => ?_)
set_option maxHeartbeats 8000000 in
set_option maxRecDepth 100000 in
theorem tree_Leaf.calls (k : Nat) (a0_0 : Int) (a0_1 : Int) (P0_2_ : Nat → Prop) (A0_2 : Option Addr) (c0_2 : Nat) (l0_2 : List Int) (r : Int) (w : World) (hs0_2 : Kd.V (Kd.int .u8) 5 w w.heap.size (fun k_ => P0_2_ k_) (.slice A0_2 l0_2.length c0_2) l0_2) (h : tree_Leaf.f k a0_0 a0_1 l0_2 = some r) :
  Calls Try.prog 23 #[.agg #[.int .i64 a0_0, .int .i64 a0_1, .slice A0_2 l0_2.length c0_2]] w fun e w' => e = .returned (.int .u32 r) ∧ Below w.heap.size w w' := by
 have hu39 := Try.underlying39
 have HO0_2 := Aside0.mk (show Kd.V (Kd.int .u8) 5 w w.heap.size (fun k_ => (P0_2_ k_ ∨ w.heap.size ≤ k_)) (.slice A0_2 l0_2.length c0_2) l0_2 from Kd.V_mono hs0_2 (fun k_ hk => .inl hk))
 have HB := Aside0.mk (Below.refl w.heap.size w)
 have H : ((octets_PutAll.f k ([] : List Int) 8 (([IntKind.u64.wrap (a0_0), IntKind.u64.wrap (a0_1)] : List Int))).bind fun bt301 => ((crc_Sum.f k (([bt301.1, l0_2] : List (List Int)))).bind fun t308 => (some t308))) = some r := h
 clear h
 obtain ⟨y298, hy298⟩ : ∃ y_ : List Int, y_ = (([IntKind.u64.wrap (a0_0), IntKind.u64.wrap (a0_1)] : List Int)) := ⟨_, rfl⟩
 replace H : ((octets_PutAll.f k ([] : List Int) 8 y298).bind fun bt301 => ((crc_Sum.f k (([bt301.1, l0_2] : List (List Int)))).bind fun t308 => (some t308))) = some r := by first | (rw [hy298]; with_reducible exact H) | (have H2_ := (Option.bind_some _ _).symm.trans H; rw [hy298]; with_reducible exact H2_) | (have H2_ := (Option.bind_some _ _).symm.trans H; with_reducible exact H2_) | with_reducible exact H | (rw [hy298]; exact H) | exact H
 have Ny298 := Aside0.mk hy298
 clear hy298
 replace H := Option.bind_eq_some_iff.mp H
 obtain ⟨⟨t301, t302⟩, A20, H⟩ := H
 replace H : ((crc_Sum.f k (([t301, l0_2] : List (List Int)))).bind fun t308 => (some t308)) = some r := H
 have A2 := Aside0.mk A20
 clear A20
 obtain ⟨y305, hy305⟩ : ∃ y_ : List (List Int), y_ = (([t301, l0_2] : List (List Int))) := ⟨_, rfl⟩
 replace H : ((crc_Sum.f k y305).bind fun t308 => (some t308)) = some r := by first | (rw [hy305]; with_reducible exact H) | (have H2_ := (Option.bind_some _ _).symm.trans H; rw [hy305]; with_reducible exact H2_) | (have H2_ := (Option.bind_some _ _).symm.trans H; with_reducible exact H2_) | with_reducible exact H | (rw [hy305]; exact H) | exact H
 have Ny305 := Aside0.mk hy305
 clear hy305
 replace H := Option.bind_eq_some_iff.mp H
 obtain ⟨t308, A30, H⟩ := H
 replace H : (some t308) = some r := H
 have A3 := Aside0.mk A30
 clear A30
 obtain rfl := Option.some.inj H
 go_enter Try.func23, Try.ntmps23
 go_wp2_with (first | ((with_reducible refine gate_dst (N := 1) rfl ?_); refine box_event ?hg (N := 1) ?hd (cs := #[.int .i64 a0_0, .int .i64 a0_1, .slice A0_2 l0_2.length c0_2]) (t := 39) ?hr ?_; (case hd => rfl); (case hg => rfl); (case hr => first | (go_simp; done) | (go_simp; rfl)); intro gb297 hg w4 hbox hb; replace HO0_2 := Aside0.mk (Kd.V_below (Kd.V_elderB (upV HO0_2.out) gb297 (Nat.le_of_eq hg.symm)) hb); have BK297 := Aside0.mk (hbox); have GW297 := Aside0.mk ((by rw [hg]; exact (below_size (upB0 HB.out)) : w.heap.size ≤ gb297)); have GE297 := Aside0.mk ((by rw [hg]; exact (below_size (upB0 HB.out)) : w.heap.size ≤ gb297)); replace HB := Aside0.mk (below_step (upB0 HB.out) hb); clear hb hbox hg; obtain ⟨hcz5_0, hcz5_1, hcz5_2, hfz5_0, hfz5_1, hfz5_2⟩ := cells3 BK297.out) | ((with_reducible refine gate_dst (N := 12) rfl ?_); refine Kd.R_lit (Kd.int .u64) _ 85 ?hg (N := 12) ?hd (xs := ([IntKind.u64.wrap (a0_0), IntKind.u64.wrap (a0_1)] : List Int)) (inner := [.int .u64 (IntKind.u64.wrap (a0_0)), .int .u64 (IntKind.u64.wrap (a0_1))]) (ok := fun _ => True) (okp := fun _ => True) ?hr ?hp (fun _ hk => hk) trivial (Below.refl _ _) (Nat.le_refl _) (by simp) ?_; (case hd => rfl); (case hg => rfl); (case hr => first | (go_simp; done) | (go_simp; rfl)); (case hp => exact (Reps.one (show Kd.M (Kd.int .u64) _ _ _ (IntKind.u64.wrap (a0_0)) [.int .u64 (IntKind.u64.wrap (a0_0))] from rfl) (Reps.one (show Kd.M (Kd.int .u64) _ _ _ (IntKind.u64.wrap (a0_1)) [.int .u64 (IntKind.u64.wrap (a0_1))] from rfl) (Reps.none _ _)))); intro v299 w6 ho7 hb hg_ hnew_; clear hg_ hnew_; (first | rw [← Ny298.out] at ho7 | (simp only [Int.reduceToNat] at ho7; rw [← Ny298.out] at ho7)); replace HO0_2 := Aside0.mk (Kd.V_elder' (upV HO0_2.out) (Kd.R_base ho7) hb); have HO300 := Aside0.mk (Kd.R_lower (Kd.R_newM (M := fun k_ => (w.heap.size ≤ k_)) ho7 (below_size (upB1 HB.out GE297.out)) (fun k_ h_ => h_)) (below_size (upB1 HB.out GE297.out))); replace BK297 := Aside0.mk (blk_below (upK BK297.out) hb); replace HB := Aside0.mk (below_step (upB1 HB.out GE297.out) hb); clear hb ho7; obtain ⟨Ao8, co8, eo8⟩ := Kd.R_slice HO300.out; subst eo8) | ((with_reducible refine gate_callee (f := 48) rfl ?_); refine goesL_ (some 13) rfl rfl Try.func48 (by kernel_rfl) rfl #[.slice none 0 0, .int .i64 8, .slice Ao8 y298.length co8] rfl argA ?_; (refine (octets_PutAll.calls k _ _ ([] : List Int) 8 _ _ y298 t301 t302 _ ?side1 ?side2 ?side3 ?side4 A2.out).mono ?_); (case side1 => exact Kd.C_nil _ _); (case side2 => exact Nat.le_refl _); (case side3 => exact upC ((Kd.R_reads' HO300.out).2.2)); (case side4 => exact (Kd.R_reads' HO300.out).2.1); rintro e w9 ⟨v303, rfl, ho0, hb⟩; refine ⟨_, rfl, ?_⟩; replace HO0_2 := Aside0.mk (Kd.V_elder' (upV HO0_2.out) (Kd.R_base ho0) hb); replace HO300 := Aside0.mk (Kd.R_below (upR HO300.out) hb); have HO304 := Aside0.mk (Kd.R_lower (Kd.R_newM (M := fun k_ => (w.heap.size ≤ k_)) ho0 (below_size (upB1 HB.out GE297.out)) (fun k_ h_ => h_)) (below_size (upB1 HB.out GE297.out))); replace BK297 := Aside0.mk (blk_below (upK BK297.out) hb); replace HB := Aside0.mk (below_step (upB1 HB.out GE297.out) hb); (try clear hb); (try clear hb2); (try clear hk); (try clear hi); (try clear ho0); obtain ⟨hcz10_0, hcz10_1, hcz10_2, hfz10_0, hfz10_1, hfz10_2⟩ := cells3 BK297.out; obtain ⟨Ao11, co11, eo11⟩ := Kd.R_slice HO304.out; subst eo11) | ((with_reducible refine gate_dst (N := 19) rfl ?_); refine Kd.N_lit (Kd.slice 5 (Kd.int .u8)) _ 37 ?hg (N' := 19) ?hd (xs := ([t301, l0_2] : List (List Int))) (inner := [.slice Ao11 t301.length co11, .slice A0_2 l0_2.length c0_2]) (ok := (fun k_ => (P0_2_ k_ ∨ w.heap.size ≤ k_) ∧ some k_ ≠ (.slice Ao8 y298.length co8 : Value).ownBlock ∧ k_ ≠ gb297)) (okp := (fun k_ => (P0_2_ k_ ∨ w.heap.size ≤ k_) ∧ some k_ ≠ (.slice Ao8 y298.length co8 : Value).ownBlock ∧ k_ ≠ gb297)) ?hr ?hp (fun _ hk => hk) ((show ∀ k_, w9.heap.size ≤ k_ → (fun k_ => (P0_2_ k_ ∨ w.heap.size ≤ k_) ∧ some k_ ≠ (.slice Ao8 y298.length co8 : Value).ownBlock ∧ k_ ≠ gb297) k_ from fun k_ hk => ⟨(.inr (Nat.le_trans (below_size (upB1 HB.out GE297.out)) hk)), Kd.fresh' (Kd.R_lt (upR HO300.out)) k_ hk, Kd.freshB (upK BK297.out) k_ hk⟩) _ (Nat.le_refl _)) (Below.refl _ _) (Nat.le_refl _) (by simp) ?_; (case hd => rfl); (case hg => rfl); (case hr => first | (go_simp; done) | (go_simp; rfl)); (case hp => (with_reducible repeat (first | refine ext_reps_drewN ?_ | refine ext_reps_drew ?_ | refine ext_reps_alloc ?_)); exact (Reps.one (show Kd.FK (Kd.slice 5 (Kd.int .u8)) _ _ t301 [.slice Ao11 t301.length co11] from (Kd.FK_slice_mk (Kd.R_reads' (Kd.R_mono (ok' := (fun k_ => (P0_2_ k_ ∨ w.heap.size ≤ k_) ∧ some k_ ≠ (.slice Ao8 y298.length co8 : Value).ownBlock ∧ k_ ≠ gb297)) (Kd.R_types (Kd.R_apart' (HO304.out) (Kd.R_typed HO300.out) (by decide)) BK297.out (by decide)) (fun k_ hk => ⟨(.inr (hk.1.1.1)), ⟨hk.1.2, hk.2⟩⟩))).2.1 (Kd.R_F (Kd.R_mono (ok' := (fun k_ => (P0_2_ k_ ∨ w.heap.size ≤ k_) ∧ some k_ ≠ (.slice Ao8 y298.length co8 : Value).ownBlock ∧ k_ ≠ gb297)) (Kd.R_types (Kd.R_apart' (HO304.out) (Kd.R_typed HO300.out) (by decide)) BK297.out (by decide)) (fun k_ hk => ⟨(.inr (hk.1.1.1)), ⟨hk.1.2, hk.2⟩⟩))))) (Reps.one (show Kd.FK (Kd.slice 5 (Kd.int .u8)) _ _ l0_2 [.slice A0_2 l0_2.length c0_2] from (Kd.FK_slice_mk (Kd.V_reads' (Kd.V_mono (ok' := (fun k_ => (P0_2_ k_ ∨ w.heap.size ≤ k_) ∧ some k_ ≠ (.slice Ao8 y298.length co8 : Value).ownBlock ∧ k_ ≠ gb297)) (HO0_2.out) (fun k_ hk => ⟨hk.1.1.1, ⟨hk.1.2, hk.1.1.2⟩⟩))).2.1 (Kd.V_F (Kd.V_mono (ok' := (fun k_ => (P0_2_ k_ ∨ w.heap.size ≤ k_) ∧ some k_ ≠ (.slice Ao8 y298.length co8 : Value).ownBlock ∧ k_ ≠ gb297)) (HO0_2.out) (fun k_ hk => ⟨hk.1.1.1, ⟨hk.1.2, hk.1.1.2⟩⟩))))) (Reps.none _ _)))); intro v306 w12 ho13 hb hg_ hnew_; clear hg_ hnew_; (first | rw [← Ny305.out] at ho13 | (simp only [Int.reduceToNat] at ho13; rw [← Ny305.out] at ho13)); have n0_ := Aside0.mk (Kd.V_elder' (upV HO0_2.out) (Kd.N_base ho13) hb); have n1_ := Aside0.mk (Kd.R_below (upR HO300.out) hb); have n2_ := Aside0.mk (Kd.N_lower ho13 (below_size (upB1 HB.out GE297.out))); have n3_ := Aside0.mk (blk_below (upK BK297.out) hb); have n4_ := Aside0.mk (below_step (upB1 HB.out GE297.out) hb); clear HO0_2; clear HO300; clear BK297; clear HB; clear HO304; have HO0_2 := n0_; have HO300 := n1_; have HO307 := n2_; have BK297 := n3_; have HB := n4_; clear n0_ n1_ n2_ n3_ n4_; clear hb ho13; obtain ⟨Ao14, co14, eo14⟩ := Kd.N_slice HO307.out; subst eo14) | ((with_reducible refine gate_callee (f := 49) rfl ?_); refine goesL_ (some 20) rfl rfl Try.func49 (by kernel_rfl) rfl #[.slice Ao14 y305.length co14] rfl argA ?_; (with_reducible refine (crc_Sum.calls k _ _ y305 t308 _ ?side1 ?side2 A3.out).mono ?_); (case side1 => exact upC ((Kd.N_reads' HO307.out).2.2)); (case side2 => exact (Kd.N_reads' HO307.out).2.1); rintro e w' ⟨rfl, ⟨nd, rfl⟩⟩; refine ⟨_, rfl, ?_⟩))
 go_ret
 exact ⟨by first | rfl | (simp [errW_none, errW_some] <;> rfl) | (simp [*, errW_none, errW_some] <;> rfl), upB1 HB.out GE297.out⟩

/-! ### plinthref01_fits: function 71 -/
def plinthref01_fits.l0 : Nat → Int → Int → Int → Option (Bool)
 | 0, _, _, _ => none
 | k + 1, x0, x1, x5 => if x5 < x1 then (plinthref01_fits.l0 k (IntKind.u64.wrap (Int.tdiv x0 256)) x1 (wrap64 (x5 + 1))) else (some (x0 == 0))
def plinthref01_fits.f (k : Nat) (a0 : Int) (a1 : Int) : Option (Bool) := plinthref01_fits.l0 k a0 a1 0
theorem plinthref01_fits.mono_l : ∀ k, (∀ y0 y1 y2, LeO (plinthref01_fits.l0 k y0 y1 y2) (plinthref01_fits.l0 (k + 1) y0 y1 y2))
 | 0 => fun _ _ _ r h => by simp [plinthref01_fits.l0] at h
 | k + 1 => by
  have ih0 := plinthref01_fits.mono_l k
  ·intro y0 y1 y2
   unfold plinthref01_fits.l0
   repeat' first
   | (with_reducible exact ih0 _ _ _)
   | (with_reducible exact LeO.refl _)
   | (with_reducible exact LeO.none _)
   | (with_reducible refine LeO.ite ?_ ?_)
   | (with_reducible refine LeO.bind ?_ (fun _ => ?_))
   | exact ih0 _ _ _
   | exact LeO.none _
   | refine LeO.ite ?_ ?_
   | refine LeO.bind ?_ (fun _ => ?_)
theorem plinthref01_fits.mono : ∀ a0 a1 k, LeO (plinthref01_fits.f k a0 a1) (plinthref01_fits.f (k + 1) a0 a1) := by
 intro a0 a1 k
 have ih0 := plinthref01_fits.mono_l k
 unfold plinthref01_fits.f
 repeat' first
   | (with_reducible exact ih0 _ _ _)
   | (with_reducible exact LeO.refl _)
   | (with_reducible exact LeO.none _)
   | (with_reducible refine LeO.ite ?_ ?_)
   | (with_reducible refine LeO.bind ?_ (fun _ => ?_))
   | exact ih0 _ _ _
   | exact LeO.none _
   | refine LeO.ite ?_ ?_
   | refine LeO.bind ?_ (fun _ => ?_)
set_option maxHeartbeats 8000000 in
set_option maxRecDepth 100000 in
theorem plinthref01_fits.calls (k : Nat) (a0 : Int) (a1 : Int) (r : Bool) (w : World) (h : plinthref01_fits.f k a0 a1 = some r) :
  Calls Try.prog 71 #[.int .u64 a0, .int .i64 a1] w fun e w' => e = .returned (.bool r) ∧ Drawn0 w w' := by
 have H : (plinthref01_fits.l0 k a0 a1 0) = some r := h
 clear h
 have H' := Aside0.mk H
 clear H
 go_enter Try.func71, Try.ntmps71
 go_wp2
 go_loopg [0, 5] k (fun kq v0 v5 w' => ∃ (x0_1 : Int) (x5_1 : Int), v0 = .int .u64 x0_1 ∧ v5 = .int .i64 x5_1 ∧ Aside0 (plinthref01_fits.l0 kq x0_1 a1 x5_1 = some r) ∧ Aside0 (kq ≤ k) ∧ Drawn0 w w')
 case atStart => exact ⟨(a0), (0), (by first | rfl | (simp; done) | (simp [*]; done)), (by first | rfl | (simp; done) | (simp [*]; done)), H', ⟨Nat.le_refl _⟩, by repeat (first | exact Drawn0.refl _ | apply Drawn0.step)⟩
 case round =>
  clear H'
  try clear p2
  obtain ⟨x0_1, x5_1, rfl, rfl, HA, HK1, ⟨m1, rfl⟩⟩ := hrel
  cases gk with
  | zero => exact absurd HA.out (by simp [plinthref01_fits.l0])
  | succ k1 =>
   have H := HA.out
   clear HA
   simp only [plinthref01_fits.l0] at H
   by_cases c3 : x5_1 < a1
   ·rw [if_pos c3] at H
    have c3b0 : decide (x5_1 < a1) = true := decide_eq_true c3
    clear c3
    have H' := Aside0.mk H
    clear H
    go_wp2
    go_roundg k1
    case measure => have := HK1.out; omega
    case rel => exact ⟨(IntKind.u64.wrap (Int.tdiv x0_1 256)), (wrap64 (x5_1 + 1)), (by first | rfl | (simp; done) | (simp [*]; done)), (by first | rfl | (simp; done) | (simp [*]; done)), H', ⟨by have := HK1.out; omega⟩, by repeat (first | exact Drawn0.refl _ | apply Drawn0.step)⟩
   ·rw [if_neg c3] at H
    have c3b0 : decide (x5_1 < a1) = false := decide_eq_false c3
    clear c3
    obtain rfl := Option.some.inj H
    go_wp2
    go_ret
    exact ⟨by first | rfl | (simp; done) | (simp [*]; done), by repeat (first | exact Drawn0.refl _ | apply Drawn0.step)⟩

end Go.Proofs.Ytbmmddngadnofaa.F
