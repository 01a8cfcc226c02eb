-- Written by ext (this session's own program).
import Derived.Test.YtcajcbeioilgmaaFx0
import Derived.Test.YtcajcbeioilgmaaFx8
import Derived.Test.YtcajcbeioilgmaaFx11
namespace Go.Proofs.Ytcajcbeioilgmaa.F
open Go.RowKit Go.Proofs.YtcajcbeioilgmaaW.PrintWords Go.Proofs.YtcajcbeioilgmaaW.PrintLast Go.Proofs.YtcajcbeioilgmaaW.PrintMore
attribute [local go_sem] max2_int min2_int max_two min_two max_three min_three max_four min_four   -- for this text's walks alone
set_option linter.unusedVariables false
set_option linter.unusedSimpArgs false

/-! ### plinthref03_Read: function 12 -/
mutual
def plinthref03_Read.j0 : Nat → List Int → Int → Bool → Option (Int × Int × List Int × Int × Int)
  | 0, _, _, _ => none
  | k + 1, x0, x1, x23 => if x23 = true then (some (0, 0, ([] : List Int), 0, 5)) else (if 0 ≤ x1 then (if x1 ≤ (x0.length : Int) then ((some (x0.drop (x1 : Int).toNat : List Int)).bind fun y209 => (if (y209.length : Int) < 16 then (some (0, 0, ([] : List Int), 0, 10)) else ((plinthref01_Get.f k y209 12 4).bind fun bt213 => (if 0 < (y209.length : Int) then (if (rd y209 0) = 80 then (if 1 < (y209.length : Int) then (if (rd y209 1) = 76 then (if 3 < (y209.length : Int) then (if (rd y209 3) = 0 then (plinthref03_Read.j1 k x1 y209 bt213.1 (decide (bt213.1 > 16777216))) else (plinthref03_Read.j1 k x1 y209 bt213.1 true)) else (none)) else (plinthref03_Read.j1 k x1 y209 bt213.1 true)) else (none)) else (plinthref03_Read.j1 k x1 y209 bt213.1 true)) else (none))))) else (none)) else (none))
def plinthref03_Read.j1 : Nat → Int → List Int → Int → Bool → Option (Int × Int × List Int × Int × Int)
  | 0, _, _, _, _ => none
  | k + 1, x1, x7, x8, x57 => if x57 = true then (some (0, 0, ([] : List Int), 0, 30)) else (if (wrap64 ((x7.length : Int) - 20)) < (wrap64 (x8)) then (some (0, 0, ([] : List Int), 0, 10)) else (if 0 ≤ (wrap64 (20 + (wrap64 (x8)))) then (if (wrap64 (20 + (wrap64 (x8)))) ≤ (x7.length : Int) then ((plinthref02_Open.f k (x7.take ((wrap64 (20 + (wrap64 (x8)))) : Int).toNat)).bind fun bt223 => (if bt223.2 = 0 then ((plinthref01_Get.f k x7 4 8).bind fun bt227 => (if 2 < (x7.length : Int) then ((some (([] : List Int) : List Int)).bind fun y231 => (if 16 ≤ (wrap64 (16 + (wrap64 (x8)))) then (if (wrap64 (16 + (wrap64 (x8)))) ≤ (x7.length : Int) then ((some ((x7.take ((wrap64 (16 + (wrap64 (x8)))) : Int).toNat).drop 16 : List Int)).bind fun y234 => (if y231.length + y234.length < 140737488355328 then (some (rd x7 2, bt227.1, (y231 ++ y234), wrap64 ((wrap64 (x1 + 20)) + (wrap64 (x8))), 0)) else (none))) else (none)) else (none))) else (none))) else (some (0, 0, ([] : List Int), 0, 31)))) else (none)) else (none)))
end
def plinthref03_Read.f (k : Nat) (l0 : List Int) (a1 : Int) : Option (Int × Int × List Int × Int × Int) := if a1 < 0 then (plinthref03_Read.j0 k l0 a1 true) else (plinthref03_Read.j0 k l0 a1 (decide (a1 > (l0.length : Int))))
theorem plinthref03_Read.mono_l : ∀ k, (∀ y0 y1 y2, LeO (plinthref03_Read.j0 k y0 y1 y2) (plinthref03_Read.j0 (k + 1) y0 y1 y2)) ∧ (∀ y0 y1 y2 y3, LeO (plinthref03_Read.j1 k y0 y1 y2 y3) (plinthref03_Read.j1 (k + 1) y0 y1 y2 y3))
  | 0 => ⟨fun _ _ _ r h => by simp [plinthref03_Read.j0] at h, fun _ _ _ _ r h => by simp [plinthref03_Read.j1] at h⟩
  | k + 1 => by
    obtain ⟨ih0, ih1⟩ := plinthref03_Read.mono_l k
    refine ⟨?_, ?_⟩
    · intro y0 y1 y2
      unfold plinthref03_Read.j0
      repeat' first
      | (with_reducible exact ih0 _ _ _)
      | (with_reducible exact ih1 _ _ _ _)
      | (with_reducible exact plinthref01_Get.mono _ _ _ _)
      | (with_reducible exact plinthref02_Open.mono _ _)
      | (with_reducible exact LeO.refl _)
      | (with_reducible exact LeO.none _)
      | (with_reducible refine LeO.ite ?_ ?_)
      | (with_reducible refine LeO.bind ?_ (fun _ => ?_))
      | exact ih0 _ _ _
      | exact ih1 _ _ _ _
      | exact plinthref01_Get.mono _ _ _ _
      | exact plinthref02_Open.mono _ _
      | exact LeO.none _
      | refine LeO.ite ?_ ?_
      | refine LeO.bind ?_ (fun _ => ?_)
    · intro y0 y1 y2 y3
      unfold plinthref03_Read.j1
      repeat' first
      | (with_reducible exact ih0 _ _ _)
      | (with_reducible exact ih1 _ _ _ _)
      | (with_reducible exact plinthref01_Get.mono _ _ _ _)
      | (with_reducible exact plinthref02_Open.mono _ _)
      | (with_reducible exact LeO.refl _)
      | (with_reducible exact LeO.none _)
      | (with_reducible refine LeO.ite ?_ ?_)
      | (with_reducible refine LeO.bind ?_ (fun _ => ?_))
      | exact ih0 _ _ _
      | exact ih1 _ _ _ _
      | exact plinthref01_Get.mono _ _ _ _
      | exact plinthref02_Open.mono _ _
      | exact LeO.none _
      | refine LeO.ite ?_ ?_
      | refine LeO.bind ?_ (fun _ => ?_)
theorem plinthref03_Read.mono : ∀ a0 a1 k, LeO (plinthref03_Read.f k a0 a1) (plinthref03_Read.f (k + 1) a0 a1) := by
  intro a0 a1 k
  obtain ⟨ih0, ih1⟩ := plinthref03_Read.mono_l k
  unfold plinthref03_Read.f
  repeat' first
      | (with_reducible exact ih0 _ _ _)
      | (with_reducible exact ih1 _ _ _ _)
      | (with_reducible exact plinthref01_Get.mono _ _ _ _)
      | (with_reducible exact plinthref02_Open.mono _ _)
      | (with_reducible exact LeO.refl _)
      | (with_reducible exact LeO.none _)
      | (with_reducible refine LeO.ite ?_ ?_)
      | (with_reducible refine LeO.bind ?_ (fun _ => ?_))
      | exact ih0 _ _ _
      | exact ih1 _ _ _ _
      | exact plinthref01_Get.mono _ _ _ _
      | exact plinthref02_Open.mono _ _
      | exact LeO.none _
      | refine LeO.ite ?_ ?_
      | refine LeO.bind ?_ (fun _ => ?_)
def plinthref03_Read.T15 : Bool × List (List Nat × List Nat) := (true, [([], []), ([0], [0]), ([1], [1]), ([], []), ([], []), ([], []), ([], []), ([6], [6]), ([7], [7]), ([5, 8], [5, 8]), ([4, 9], [4, 9]), ([2, 3, 10], [2, 3, 10]), ([], []), ([12], [12]), ([], []), ([14], [14]), ([13, 15], [13, 15]), ([11, 10, 0, 1, 2, 3, 4, 5, 6, 7, 8, 9, 10, 11], [11]), ([16, 17, 0, 1, 2, 3, 4, 5, 6, 7, 8, 9, 10, 11, 12, 13, 14, 15, 16, 17], [16]), ([18, 0, 1, 2, 3, 4, 5, 6, 7, 8, 9, 10, 11, 12, 13, 14, 15, 16, 17, 18], [])])
def plinthref03_Read.B15 : List Nat := [0, 1, 3, 0, 0, 0, 0, 64, 192, 480, 1008, 2047, 0, 4096, 0, 16384, 61440, 4095, 262143, 524287]
theorem plinthref03_Read.tab15 : rtab .any (opsOf Try.f12 15) = plinthref03_Read.T15 := by kernel_rfl
theorem plinthref03_Read.bits15 : waitsOk plinthref03_Read.T15.2 plinthref03_Read.B15 = true := by kernel_rfl
set_option maxHeartbeats 8000000 in
set_option maxRecDepth 100000 in
theorem plinthref03_Read.calls (k : Nat) (A0 : Option Addr) (c0 : Nat) (l0 : List Int) (a1 : Int) (r1 : Int) (r2 : Int) (r3 : List Int) (r4 : Int) (r5 : Int) (w : World) (hr0 : Kd.C (Kd.int .u8) w A0 l0.length l0) (hc0 : l0.length ≤ c0) (h : plinthref03_Read.f k l0 a1 = some (r1, r2, r3, r4, r5)) :
    Calls Try.prog 12 #[.slice A0 l0.length c0, .int .i64 a1] w fun e w' => ∃ v2_ : Value, e = .returned (.tuple #[.agg #[.int .u8 r1, .int .u64 r2, v2_], .int .i64 r4, .int .i64 r5]) ∧ Kd.R (Kd.int .u8) 5 w' w.heap.size (fun _ => True) v2_ r3 ∧ Below w.heap.size w w' := by
  have hu26 := Try.underlying26
  have HR0 := Aside0.mk hr0
  have HC0 := Aside0.mk hc0
  clear hr0 hc0
  have HB := Aside0.mk (Below.refl w.heap.size w)
  have H : (if a1 < 0 then (plinthref03_Read.j0 k l0 a1 true) else (plinthref03_Read.j0 k l0 a1 (decide (a1 > (l0.length : Int))))) = some (r1, r2, r3, r4, r5) := h
  clear h
  have HC3 := Aside0.mk H
  clear H
  go_enter Try.func12, Try.ntmps12
  go_upto_region 1 with (first | ((with_reducible refine gate_dst (N := 4) rfl ?_); (try (refine gate_guard (by rfl) ?_; dsimp only)); refine box_event ?hg (N := 4) ?hd (cs := #[.int .u8 0, .int .u64 0, .slice none 0 0]) (t := 26) ?hr ?_; (case hd => rfl); (case hg => rfl); (case hr => first | (go_simp; done) | (go_simp; rfl)); intro gb208 hg w4 hbox hb; have BK208 := Aside0.mk (hbox); have GW208 := Aside0.mk ((by rw [hg]; exact (below_size (upB0 HB.out)) : w.heap.size ≤ gb208)); have GE208 := Aside0.mk ((by rw [hg]; exact (below_size (upB0 HB.out)) : w.heap.size ≤ gb208)); replace HB := Aside0.mk (below_step (upB0 HB.out) hb); clear hb hbox hg))
  (try simp only [Act.put, List.setIfInBounds_toArray, List.set_cons_zero, List.set_cons_succ])
  go_cut [23] (fun v23 wc => ∃ (kq : Nat) (x23_2 : Bool), v23 = .bool x23_2 ∧ Aside0 (plinthref03_Read.j0 kq l0 a1 x23_2 = some (r1, r2, r3, r4, r5)) ∧ Aside0 (kq ≤ k) ∧ Aside0 (wc.heap[gb208]? = some (.cells #[.int .u8 0, .int .u64 0, (.slice none 0 0)] 26 (0, 0))) ∧ Aside0 (Below w.heap.size w wc))
  case first =>
    have H := HC3.out
    clear HC3
    by_cases c5 : a1 < 0
    · rw [if_pos c5] at H
      have c5b0 : decide (a1 < 0) = true := decide_eq_true c5
      clear c5
      (first | rw [c5b0] | (simp only [i64_w, i32_w]; rw [c5b0]) | skip)
      have H' := Aside0.mk H
      clear H
      go_wp2
      go_meet
      case rel => exact ⟨_, (true), (by first | rfl | (simp; done) | (simp [*]; done)), H', ⟨by first | omega | exact Nat.le_refl _⟩, ⟨by refine upK ?_; exact BK208.out⟩, ⟨upB1 HB.out GE208.out⟩⟩
    · rw [if_neg c5] at H
      have c5b0 : decide (a1 < 0) = false := decide_eq_false c5
      clear c5
      (first | rw [c5b0] | (simp only [i64_w, i32_w]; rw [c5b0]) | skip)
      have H' := Aside0.mk H
      clear H
      go_wp2
      go_meet
      case rel => exact ⟨_, (decide (a1 > (l0.length : Int))), (by first | rfl | (simp; done) | (simp [*]; done)), H', ⟨by first | omega | exact Nat.le_refl _⟩, ⟨by refine upK ?_; exact BK208.out⟩, ⟨upB1 HB.out GE208.out⟩⟩
  case rest =>
    clear HC3
    try clear c1
    try clear p2
    try clear c5
    try clear c5b0
    obtain ⟨kq, x23_2, rfl, HA, HJ2, BK208, HB⟩ := hcut
    cases kq with
    | zero => exact absurd HA.out (by simp [plinthref03_Read.j0])
    | succ kj2 =>
      have H := HA.out
      clear HA
      simp only [plinthref03_Read.j0] at H
      by_cases c6 : x23_2 = true
      · subst c6
        have H1 : (some (0, 0, ([] : List Int), 0, 5)) = some (r1, r2, r3, r4, r5) := by rw [if_pos rfl] at H; exact H
        clear H
        have H := H1
        clear H1
        simp only [Option.some.injEq, Prod.mk.injEq] at H
        obtain ⟨rfl, rfl, rfl, rfl, rfl⟩ := H
        obtain ⟨hcz7_0, hcz7_1, hcz7_2, hfz7_0, hfz7_1, hfz7_2⟩ := cells3 BK208.out
        go_wp2
        refine bodyPost_ret (results_ctt rfl _ _ gb208 26 #[.int .u8 0, .int .u64 0, .slice none 0 0] (0, 0) _ rfl (by refine upK ?_; refine blk_put (cs := #[.int .u8 0, .int .u64 0, .slice none 0 0]) ?_ 2 _ rfl; refine upK ?_; refine blk_put (cs := #[.int .u8 0, .int .u64 0, .slice none 0 0]) ?_ 1 _ rfl; refine upK ?_; refine blk_put (cs := #[.int .u8 0, .int .u64 0, .slice none 0 0]) ?_ 0 _ rfl; refine upK ?_; exact BK208.out) Try.underlying26 rfl (by kernel_rfl)) rfl ?_
        exact ⟨_, by first | rfl | (simp [errW_none, errW_some] <;> rfl) | (simp [*, errW_none, errW_some] <;> rfl), by first | exact Kd.R_nil _ _ _ _ _ | exact Kd.N_nil _ _ _ _ _ | exact Kd.V_nil _ _ _ _ _ | exact Kd.Q_nil _ _ _ _ _ | exact Kd.S_nil _ _ _ _ _, upB1 HB.out GE208.out⟩
      · replace c6 := Bool.eq_false_iff.mpr c6
        subst c6
        have H1 : (if 0 ≤ a1 then (if a1 ≤ (l0.length : Int) then ((some (l0.drop (a1 : Int).toNat : List Int)).bind fun y209 => (if (y209.length : Int) < 16 then (some (0, 0, ([] : List Int), 0, 10)) else ((plinthref01_Get.f kj2 y209 12 4).bind fun bt213 => (if 0 < (y209.length : Int) then (if (rd y209 0) = 80 then (if 1 < (y209.length : Int) then (if (rd y209 1) = 76 then (if 3 < (y209.length : Int) then (if (rd y209 3) = 0 then (plinthref03_Read.j1 kj2 a1 y209 bt213.1 (decide (bt213.1 > 16777216))) else (plinthref03_Read.j1 kj2 a1 y209 bt213.1 true)) else (none)) else (plinthref03_Read.j1 kj2 a1 y209 bt213.1 true)) else (none)) else (plinthref03_Read.j1 kj2 a1 y209 bt213.1 true)) else (none))))) else (none)) else (none)) = some (r1, r2, r3, r4, r5) := by rw [if_neg (show ¬ (false = true) by decide)] at H; exact H
        clear H
        have H := H1
        clear H1
        by_cases c8 : 0 ≤ a1
        · rw [if_pos c8] at H
          have c8b0 := eq_true c8
          have c8b1 : decide (0 ≤ a1) = true := decide_eq_true c8
          clear c8
          by_cases c9 : a1 ≤ (l0.length : Int)
          · rw [if_pos c9] at H
            have c9b0 := eq_true c9
            have c9b1 : decide (a1 ≤ (l0.length : Int)) = true := decide_eq_true c9
            clear c9
            obtain ⟨y209, hy209⟩ : ∃ y_ : List Int, y_ = (l0.drop (a1 : Int).toNat) := ⟨_, rfl⟩
            replace H : (if (y209.length : Int) < 16 then (some (0, 0, ([] : List Int), 0, 10)) else ((plinthref01_Get.f kj2 y209 12 4).bind fun bt213 => (if 0 < (y209.length : Int) then (if (rd y209 0) = 80 then (if 1 < (y209.length : Int) then (if (rd y209 1) = 76 then (if 3 < (y209.length : Int) then (if (rd y209 3) = 0 then (plinthref03_Read.j1 kj2 a1 y209 bt213.1 (decide (bt213.1 > 16777216))) else (plinthref03_Read.j1 kj2 a1 y209 bt213.1 true)) else (none)) else (plinthref03_Read.j1 kj2 a1 y209 bt213.1 true)) else (none)) else (plinthref03_Read.j1 kj2 a1 y209 bt213.1 true)) else (none)))) = some (r1, r2, r3, r4, r5) := by first | (rw [hy209]; with_reducible exact H) | (have H2_ := (Option.bind_some _ _).symm.trans H; rw [hy209]; with_reducible exact H2_) | (have H2_ := (Option.bind_some _ _).symm.trans H; with_reducible exact H2_) | with_reducible exact H | (rw [hy209]; exact H) | exact H
            have Ny209 := Aside0.mk hy209
            clear hy209
            by_cases c10 : (y209.length : Int) < 16
            · rw [if_pos c10] at H
              have c10b0 : decide ((y209.length : Int) < 16) = true := decide_eq_true c10
              have c10b1 : decide (y209.length < 16) = true := decide_eq_true (by omega)
              clear c10
              simp only [Option.some.injEq, Prod.mk.injEq] at H
              obtain ⟨rfl, rfl, rfl, rfl, rfl⟩ := H
              have q11 : (a1 : Int) ≤ ((l0.length : Int) : Int) := of_decide_eq_true (by first | (with_reducible assumption) | assumption)
              obtain ⟨i011, hi011, _, hsz11, _⟩ := info_parts info5
              have hroom11 : l0.length ≤ c0 := HC0.out
              have hC11 : Kd.C (Kd.int .u8) _ A0 l0.length l0 := HR0.out
              have q011 : (0 : Int) ≤ (a1 : Int) := of_decide_eq_true (by first | (with_reducible assumption) | assumption)
              have hcut11 := cut_from (P := Try.prog) 22 5 .i64 Try.underlying22 hi011 1 hsz11 A0 l0.length c0 a1 q011 q11
              have hr11 := Kd.C_drop (m := (a1 : Int).toNat) (c := c0) hC11 (by omega) hroom11
              obtain ⟨A11, hA11⟩ : ∃ A1, A1 = (if c0 = (a1 : Int).toNat then A0 else (A0 : Option Addr).map (·.add ((a1 : Int).toNat * 1))) := ⟨_, rfl⟩
              obtain ⟨c11, hc11⟩ : ∃ c1, c1 = c0 - (a1 : Int).toNat := ⟨_, rfl⟩
              have hy11 : y209.length = l0.length - (a1 : Int).toNat := (by rw [Ny209.out, List.length_drop] <;> omega)
              rw [show (l0).drop (a1 : Int).toNat = y209 from Ny209.out.symm] at hr11
              replace hr11 : Kd.C (Kd.int .u8) _ A11 y209.length y209 := (by rw [hA11]; exact hr11)
              rw [← hy11, ← hA11, ← hc11] at hcut11
              have HR212 := Aside0.mk hr11
              have HC212 := Aside0.mk (show y209.length ≤ c11 from by rw [hy11, hc11]; exact Nat.sub_le_sub_right hroom11 _)
              clear hr11 hC11 hroom11 hi011 hsz11 hc11
              have KY11 := Aside0.mk hy11
              have KA11 := Aside0.mk hA11
              clear hy11 hA11
              replace q11 := eq_true q11
              obtain ⟨hcz12_0, hcz12_1, hcz12_2, hfz12_0, hfz12_1, hfz12_2⟩ := cells3 BK208.out
              go_wp2
              refine bodyPost_ret (results_ctt rfl _ _ gb208 26 #[.int .u8 0, .int .u64 0, .slice none 0 0] (0, 0) _ rfl (by refine upK ?_; refine blk_put (cs := #[.int .u8 0, .int .u64 0, .slice none 0 0]) ?_ 2 _ rfl; refine upK ?_; refine blk_put (cs := #[.int .u8 0, .int .u64 0, .slice none 0 0]) ?_ 1 _ rfl; refine upK ?_; refine blk_put (cs := #[.int .u8 0, .int .u64 0, .slice none 0 0]) ?_ 0 _ rfl; refine upK ?_; exact BK208.out) Try.underlying26 rfl (by kernel_rfl)) rfl ?_
              exact ⟨_, by first | rfl | (simp [errW_none, errW_some] <;> rfl) | (simp [*, errW_none, errW_some] <;> rfl), by first | exact Kd.R_nil _ _ _ _ _ | exact Kd.N_nil _ _ _ _ _ | exact Kd.V_nil _ _ _ _ _ | exact Kd.Q_nil _ _ _ _ _ | exact Kd.S_nil _ _ _ _ _, upB1 HB.out GE208.out⟩
            · rw [if_neg c10] at H
              have c10b0 : decide ((y209.length : Int) < 16) = false := decide_eq_false c10
              have c10b1 : decide (y209.length < 16) = false := decide_eq_false (by omega)
              clear c10
              replace H := Option.bind_eq_some_iff.mp H
              obtain ⟨⟨t213, t214, t215⟩, A130, H⟩ := H
              replace H : (if 0 < (y209.length : Int) then (if (rd y209 0) = 80 then (if 1 < (y209.length : Int) then (if (rd y209 1) = 76 then (if 3 < (y209.length : Int) then (if (rd y209 3) = 0 then (plinthref03_Read.j1 kj2 a1 y209 t213 (decide (t213 > 16777216))) else (plinthref03_Read.j1 kj2 a1 y209 t213 true)) else (none)) else (plinthref03_Read.j1 kj2 a1 y209 t213 true)) else (none)) else (plinthref03_Read.j1 kj2 a1 y209 t213 true)) else (none)) = some (r1, r2, r3, r4, r5) := H
              have A13 := Aside0.mk A130
              clear A130
              have HC14 := Aside0.mk H
              clear H
              have q15 : (a1 : Int) ≤ ((l0.length : Int) : Int) := of_decide_eq_true (by first | (with_reducible assumption) | assumption)
              obtain ⟨i015, hi015, _, hsz15, _⟩ := info_parts info5
              have hroom15 : l0.length ≤ c0 := HC0.out
              have hC15 : Kd.C (Kd.int .u8) _ A0 l0.length l0 := HR0.out
              have q015 : (0 : Int) ≤ (a1 : Int) := of_decide_eq_true (by first | (with_reducible assumption) | assumption)
              have hcut15 := cut_from (P := Try.prog) 22 5 .i64 Try.underlying22 hi015 1 hsz15 A0 l0.length c0 a1 q015 q15
              have hr15 := Kd.C_drop (m := (a1 : Int).toNat) (c := c0) hC15 (by omega) hroom15
              obtain ⟨A15, hA15⟩ : ∃ A1, A1 = (if c0 = (a1 : Int).toNat then A0 else (A0 : Option Addr).map (·.add ((a1 : Int).toNat * 1))) := ⟨_, rfl⟩
              obtain ⟨c15, hc15⟩ : ∃ c1, c1 = c0 - (a1 : Int).toNat := ⟨_, rfl⟩
              have hy15 : y209.length = l0.length - (a1 : Int).toNat := (by rw [Ny209.out, List.length_drop] <;> omega)
              rw [show (l0).drop (a1 : Int).toNat = y209 from Ny209.out.symm] at hr15
              replace hr15 : Kd.C (Kd.int .u8) _ A15 y209.length y209 := (by rw [hA15]; exact hr15)
              rw [← hy15, ← hA15, ← hc15] at hcut15
              have HR212 := Aside0.mk hr15
              have HC212 := Aside0.mk (show y209.length ≤ c15 from by rw [hy15, hc15]; exact Nat.sub_le_sub_right hroom15 _)
              clear hr15 hC15 hroom15 hi015 hsz15 hc15
              have KY15 := Aside0.mk hy15
              have KA15 := Aside0.mk hA15
              clear hy15 hA15
              replace q15 := eq_true q15
              go_upto_region 7 with (first | ((with_reducible refine gate_callee (f := 26) rfl ?_); refine goesL_ (some 34) rfl rfl Try.func26 (by kernel_rfl) rfl #[.slice A15 y209.length c15, .int .i64 12, .int .i64 4] rfl argA ?_; (with_reducible refine (plinthref01_Get.calls kj2 _ _ y209 12 4 t213 t214 t215 _ ?side1 ?side2 A13.out).mono ?_); (case side1 => exact upC ((Kd.C_below HR212.out HB.out))); (case side2 => exact HC212.out); rintro e w' ⟨rfl, ⟨nd, rfl⟩⟩; refine ⟨_, rfl, ?_⟩))
              (try simp only [Act.put, List.setIfInBounds_toArray, List.set_cons_zero, List.set_cons_succ])
              go_cut [57] (fun v57 wc => ∃ (kq : Nat) (x57_13 : Bool), v57 = .bool x57_13 ∧ Aside0 (plinthref03_Read.j1 kq a1 y209 t213 x57_13 = some (r1, r2, r3, r4, r5)) ∧ Aside0 (kq ≤ kj2) ∧ Aside0 (wc.heap[gb208]? = some (.cells #[.int .u8 0, .int .u64 0, (.slice none 0 0)] 26 (0, 0))) ∧ Aside0 (Below w.heap.size w wc))
              case first =>
                have H := HC14.out
                clear HC14
                by_cases c16 : 0 < (y209.length : Int)
                · rw [if_pos c16] at H
                  have c16b0 : decide (0 < (y209.length : Int)) = true := decide_eq_true c16
                  have c16b1 : decide (0 < y209.length) = true := decide_eq_true (by omega)
                  clear c16
                  (first | rw [c16b0] | (simp only [i64_w, i32_w]; rw [c16b0]) | skip)
                  by_cases c17 : (rd y209 0) = 80
                  · rw [if_pos c17] at H
                    have c17b0 : ((rd y209 0) == 80) = true := beq_iff_eq.mpr c17
                    have c17b1 : ((rd y209 0) != 80) = false := bne_eq_false_iff_eq.mpr c17
                    clear c17
                    by_cases c18 : 1 < (y209.length : Int)
                    · rw [if_pos c18] at H
                      have c18b0 : decide (1 < (y209.length : Int)) = true := decide_eq_true c18
                      have c18b1 : decide (1 < y209.length) = true := decide_eq_true (by omega)
                      clear c18
                      by_cases c19 : (rd y209 1) = 76
                      · rw [if_pos c19] at H
                        have c19b0 : ((rd y209 1) == 76) = true := beq_iff_eq.mpr c19
                        have c19b1 : ((rd y209 1) != 76) = false := bne_eq_false_iff_eq.mpr c19
                        clear c19
                        by_cases c20 : 3 < (y209.length : Int)
                        · rw [if_pos c20] at H
                          have c20b0 : decide (3 < (y209.length : Int)) = true := decide_eq_true c20
                          have c20b1 : decide (3 < y209.length) = true := decide_eq_true (by omega)
                          clear c20
                          by_cases c21 : (rd y209 3) = 0
                          · rw [if_pos c21] at H
                            have c21b0 : ((rd y209 3) == 0) = true := beq_iff_eq.mpr c21
                            have c21b1 : ((rd y209 3) != 0) = false := bne_eq_false_iff_eq.mpr c21
                            clear c21
                            have H' := Aside0.mk H
                            clear H
                            have p216 : 0 ≤ (0 : Int) := (by omega)
                            have q216 : 0 < (y209.length : Int) := of_decide_eq_true (by first | (with_reducible assumption) | assumption)
                            obtain ⟨ad216, e216, hx216_0⟩ := Kd.at_int HR212.out 0 p216 q216
                            cases e216
                            have qi216 : (0 < y209.length) = True := eq_true (by omega)
                            (try rw [show ((0 : Int)).toNat = 0 from rfl] at hx216_0)
                            (try rw [Addr.add_zero'] at hx216_0)
                            replace hx216_0 := (HB.out.cell (World.block_lt_of_cell? w _ hx216_0)).trans hx216_0
                            replace p216 := eq_true p216
                            replace q216 := eq_true q216
                            have p217 : 0 ≤ (1 : Int) := (by omega)
                            have q217 : 1 < (y209.length : Int) := of_decide_eq_true (by first | (with_reducible assumption) | assumption)
                            obtain ⟨ad217, e217, hx217_0⟩ := Kd.at_int HR212.out 1 p217 q217
                            obtain rfl : ad216 = ad217 := (by injection e217)
                            (try simp only [show (1 : Int).toNat = 1 from rfl, Nat.reduceMul, Nat.reduceEqDiff, Go.Addr.add, ↓reduceIte] at hx217_0)
                            have qi217 : (1 < y209.length) = True := eq_true (by omega)
                            (try rw [show ((1 : Int)).toNat = 1 from rfl] at hx217_0)
                            replace hx217_0 := (HB.out.cell (World.block_lt_of_cell? w _ hx217_0)).trans hx217_0
                            replace p217 := eq_true p217
                            replace q217 := eq_true q217
                            have p218 : 0 ≤ (3 : Int) := (by omega)
                            have q218 : 3 < (y209.length : Int) := of_decide_eq_true (by first | (with_reducible assumption) | assumption)
                            obtain ⟨ad218, e218, hx218_0⟩ := Kd.at_int HR212.out 3 p218 q218
                            obtain rfl : ad216 = ad218 := (by injection e218)
                            (try simp only [show (3 : Int).toNat = 3 from rfl, Nat.reduceMul, Nat.reduceEqDiff, Go.Addr.add, ↓reduceIte] at hx218_0)
                            have qi218 : (3 < y209.length) = True := eq_true (by omega)
                            (try rw [show ((3 : Int)).toNat = 3 from rfl] at hx218_0)
                            replace hx218_0 := (HB.out.cell (World.block_lt_of_cell? w _ hx218_0)).trans hx218_0
                            replace p218 := eq_true p218
                            replace q218 := eq_true q218
                            go_wp2
                            go_meet
                            case rel => exact ⟨_, (decide (t213 > 16777216)), (by first | rfl | (simp; done) | (simp [*]; done)), H', ⟨by have := HJ2.out; first | omega | exact Nat.le_refl _⟩, ⟨by refine upK ?_; exact BK208.out⟩, ⟨upB1 HB.out GE208.out⟩⟩
                          · rw [if_neg c21] at H
                            have c21b0 : ((rd y209 3) == 0) = false := beq_eq_false_iff_ne.mpr c21
                            have c21b1 : ((rd y209 3) != 0) = true := bne_iff_ne.mpr c21
                            have H' := Aside0.mk H
                            clear H
                            have p216 : 0 ≤ (0 : Int) := (by omega)
                            have q216 : 0 < (y209.length : Int) := of_decide_eq_true (by first | (with_reducible assumption) | assumption)
                            obtain ⟨ad216, e216, hx216_0⟩ := Kd.at_int HR212.out 0 p216 q216
                            cases e216
                            have qi216 : (0 < y209.length) = True := eq_true (by omega)
                            (try rw [show ((0 : Int)).toNat = 0 from rfl] at hx216_0)
                            (try rw [Addr.add_zero'] at hx216_0)
                            replace hx216_0 := (HB.out.cell (World.block_lt_of_cell? w _ hx216_0)).trans hx216_0
                            replace p216 := eq_true p216
                            replace q216 := eq_true q216
                            have p217 : 0 ≤ (1 : Int) := (by omega)
                            have q217 : 1 < (y209.length : Int) := of_decide_eq_true (by first | (with_reducible assumption) | assumption)
                            obtain ⟨ad217, e217, hx217_0⟩ := Kd.at_int HR212.out 1 p217 q217
                            obtain rfl : ad216 = ad217 := (by injection e217)
                            (try simp only [show (1 : Int).toNat = 1 from rfl, Nat.reduceMul, Nat.reduceEqDiff, Go.Addr.add, ↓reduceIte] at hx217_0)
                            have qi217 : (1 < y209.length) = True := eq_true (by omega)
                            (try rw [show ((1 : Int)).toNat = 1 from rfl] at hx217_0)
                            replace hx217_0 := (HB.out.cell (World.block_lt_of_cell? w _ hx217_0)).trans hx217_0
                            replace p217 := eq_true p217
                            replace q217 := eq_true q217
                            have p218 : 0 ≤ (3 : Int) := (by omega)
                            have q218 : 3 < (y209.length : Int) := of_decide_eq_true (by first | (with_reducible assumption) | assumption)
                            obtain ⟨ad218, e218, hx218_0⟩ := Kd.at_int HR212.out 3 p218 q218
                            obtain rfl : ad216 = ad218 := (by injection e218)
                            (try simp only [show (3 : Int).toNat = 3 from rfl, Nat.reduceMul, Nat.reduceEqDiff, Go.Addr.add, ↓reduceIte] at hx218_0)
                            have qi218 : (3 < y209.length) = True := eq_true (by omega)
                            (try rw [show ((3 : Int)).toNat = 3 from rfl] at hx218_0)
                            replace hx218_0 := (HB.out.cell (World.block_lt_of_cell? w _ hx218_0)).trans hx218_0
                            replace p218 := eq_true p218
                            replace q218 := eq_true q218
                            go_wp2
                            go_meet
                            case rel => exact ⟨_, (true), (by first | rfl | (simp; done) | (simp [*]; done)), H', ⟨by have := HJ2.out; first | omega | exact Nat.le_refl _⟩, ⟨by refine upK ?_; exact BK208.out⟩, ⟨upB1 HB.out GE208.out⟩⟩
                        · rw [if_neg c20] at H
                          exact absurd H (by simp)
                      · rw [if_neg c19] at H
                        have c19b0 : ((rd y209 1) == 76) = false := beq_eq_false_iff_ne.mpr c19
                        have c19b1 : ((rd y209 1) != 76) = true := bne_iff_ne.mpr c19
                        have H' := Aside0.mk H
                        clear H
                        have p216 : 0 ≤ (0 : Int) := (by omega)
                        have q216 : 0 < (y209.length : Int) := of_decide_eq_true (by first | (with_reducible assumption) | assumption)
                        obtain ⟨ad216, e216, hx216_0⟩ := Kd.at_int HR212.out 0 p216 q216
                        cases e216
                        have qi216 : (0 < y209.length) = True := eq_true (by omega)
                        (try rw [show ((0 : Int)).toNat = 0 from rfl] at hx216_0)
                        (try rw [Addr.add_zero'] at hx216_0)
                        replace hx216_0 := (HB.out.cell (World.block_lt_of_cell? w _ hx216_0)).trans hx216_0
                        replace p216 := eq_true p216
                        replace q216 := eq_true q216
                        have p217 : 0 ≤ (1 : Int) := (by omega)
                        have q217 : 1 < (y209.length : Int) := of_decide_eq_true (by first | (with_reducible assumption) | assumption)
                        obtain ⟨ad217, e217, hx217_0⟩ := Kd.at_int HR212.out 1 p217 q217
                        obtain rfl : ad216 = ad217 := (by injection e217)
                        (try simp only [show (1 : Int).toNat = 1 from rfl, Nat.reduceMul, Nat.reduceEqDiff, Go.Addr.add, ↓reduceIte] at hx217_0)
                        have qi217 : (1 < y209.length) = True := eq_true (by omega)
                        (try rw [show ((1 : Int)).toNat = 1 from rfl] at hx217_0)
                        replace hx217_0 := (HB.out.cell (World.block_lt_of_cell? w _ hx217_0)).trans hx217_0
                        replace p217 := eq_true p217
                        replace q217 := eq_true q217
                        go_wp2
                        go_meet
                        case rel => exact ⟨_, (true), (by first | rfl | (simp; done) | (simp [*]; done)), H', ⟨by have := HJ2.out; first | omega | exact Nat.le_refl _⟩, ⟨by refine upK ?_; exact BK208.out⟩, ⟨upB1 HB.out GE208.out⟩⟩
                    · rw [if_neg c18] at H
                      exact absurd H (by simp)
                  · rw [if_neg c17] at H
                    have c17b0 : ((rd y209 0) == 80) = false := beq_eq_false_iff_ne.mpr c17
                    have c17b1 : ((rd y209 0) != 80) = true := bne_iff_ne.mpr c17
                    have H' := Aside0.mk H
                    clear H
                    have p216 : 0 ≤ (0 : Int) := (by omega)
                    have q216 : 0 < (y209.length : Int) := of_decide_eq_true (by first | (with_reducible assumption) | assumption)
                    obtain ⟨ad216, e216, hx216_0⟩ := Kd.at_int HR212.out 0 p216 q216
                    cases e216
                    have qi216 : (0 < y209.length) = True := eq_true (by omega)
                    (try rw [show ((0 : Int)).toNat = 0 from rfl] at hx216_0)
                    (try rw [Addr.add_zero'] at hx216_0)
                    replace hx216_0 := (HB.out.cell (World.block_lt_of_cell? w _ hx216_0)).trans hx216_0
                    replace p216 := eq_true p216
                    replace q216 := eq_true q216
                    go_wp2
                    go_meet
                    case rel => exact ⟨_, (true), (by first | rfl | (simp; done) | (simp [*]; done)), H', ⟨by have := HJ2.out; first | omega | exact Nat.le_refl _⟩, ⟨by refine upK ?_; exact BK208.out⟩, ⟨upB1 HB.out GE208.out⟩⟩
                · rw [if_neg c16] at H
                  exact absurd H (by simp)
              case rest =>
                clear HC14
                try clear c1
                try clear q1
                try clear c2
                try clear p2
                try clear q2
                try clear hx2
                try clear qi2
                try clear c5
                try clear c5b0
                try clear c6
                try clear c8
                try clear c8b0
                try clear c8b1
                try clear c9
                try clear c9b0
                try clear c9b1
                try clear c10
                try clear c10b0
                try clear c10b1
                try clear c11
                try clear q11
                try clear c12
                try clear c15
                try clear q15
                try clear c16
                try clear c16b0
                try clear c16b1
                try clear c17
                try clear c17b0
                try clear c17b1
                try clear c18
                try clear c18b0
                try clear c18b1
                try clear c19
                try clear c19b0
                try clear c19b1
                try clear c20
                try clear c20b0
                try clear c20b1
                try clear c21
                try clear c21b0
                try clear c21b1
                try clear p21
                try clear q21
                try clear hx21
                try clear qi21
                try clear hcz12_0
                try clear hcz12_1
                try clear hcz12_2
                try clear hcz7_0
                try clear hcz7_1
                try clear hcz7_2
                try clear hfz12_0
                try clear hfz12_1
                try clear hfz12_2
                try clear hfz7_0
                try clear hfz7_1
                try clear hfz7_2
                try clear hx216_0
                try clear hx217_0
                try clear hx218_0
                try clear p2
                try clear p216
                try clear p217
                try clear p218
                try clear q011
                try clear q015
                try clear q11
                try clear q15
                try clear q216
                try clear q217
                try clear q218
                obtain ⟨kq, x57_13, rfl, HA, HJ13, BK208, HB⟩ := hcut
                cases kq with
                | zero => exact absurd HA.out (by simp [plinthref03_Read.j1])
                | succ kj13 =>
                  have H := HA.out
                  clear HA
                  simp only [plinthref03_Read.j1] at H
                  by_cases c22 : x57_13 = true
                  · subst c22
                    have H1 : (some (0, 0, ([] : List Int), 0, 30)) = some (r1, r2, r3, r4, r5) := by rw [if_pos rfl] at H; exact H
                    clear H
                    have H := H1
                    clear H1
                    simp only [Option.some.injEq, Prod.mk.injEq] at H
                    obtain ⟨rfl, rfl, rfl, rfl, rfl⟩ := H
                    obtain ⟨hcz23_0, hcz23_1, hcz23_2, hfz23_0, hfz23_1, hfz23_2⟩ := cells3 BK208.out
                    go_wp2
                    refine bodyPost_ret (results_ctt rfl _ _ gb208 26 #[.int .u8 0, .int .u64 0, .slice none 0 0] (0, 0) _ rfl (by refine upK ?_; refine blk_put (cs := #[.int .u8 0, .int .u64 0, .slice none 0 0]) ?_ 2 _ rfl; refine upK ?_; refine blk_put (cs := #[.int .u8 0, .int .u64 0, .slice none 0 0]) ?_ 1 _ rfl; refine upK ?_; refine blk_put (cs := #[.int .u8 0, .int .u64 0, .slice none 0 0]) ?_ 0 _ rfl; refine upK ?_; exact BK208.out) Try.underlying26 rfl (by kernel_rfl)) rfl ?_
                    exact ⟨_, by first | rfl | (simp [errW_none, errW_some] <;> rfl) | (simp [*, errW_none, errW_some] <;> rfl), by first | exact Kd.R_nil _ _ _ _ _ | exact Kd.N_nil _ _ _ _ _ | exact Kd.V_nil _ _ _ _ _ | exact Kd.Q_nil _ _ _ _ _ | exact Kd.S_nil _ _ _ _ _, upB1 HB.out GE208.out⟩
                  · replace c22 := Bool.eq_false_iff.mpr c22
                    subst c22
                    have H1 : (if (wrap64 ((y209.length : Int) - 20)) < (wrap64 (t213)) then (some (0, 0, ([] : List Int), 0, 10)) else (if 0 ≤ (wrap64 (20 + (wrap64 (t213)))) then (if (wrap64 (20 + (wrap64 (t213)))) ≤ (y209.length : Int) then ((plinthref02_Open.f kj13 (y209.take ((wrap64 (20 + (wrap64 (t213)))) : Int).toNat)).bind fun bt223 => (if bt223.2 = 0 then ((plinthref01_Get.f kj13 y209 4 8).bind fun bt227 => (if 2 < (y209.length : Int) then ((some (([] : List Int) : List Int)).bind fun y231 => (if 16 ≤ (wrap64 (16 + (wrap64 (t213)))) then (if (wrap64 (16 + (wrap64 (t213)))) ≤ (y209.length : Int) then ((some ((y209.take ((wrap64 (16 + (wrap64 (t213)))) : Int).toNat).drop 16 : List Int)).bind fun y234 => (if y231.length + y234.length < 140737488355328 then (some (rd y209 2, bt227.1, (y231 ++ y234), wrap64 ((wrap64 (a1 + 20)) + (wrap64 (t213))), 0)) else (none))) else (none)) else (none))) else (none))) else (some (0, 0, ([] : List Int), 0, 31)))) else (none)) else (none))) = some (r1, r2, r3, r4, r5) := by rw [if_neg (show ¬ (false = true) by decide)] at H; exact H
                    clear H
                    have H := H1
                    clear H1
                    by_cases c24 : (wrap64 ((y209.length : Int) - 20)) < (wrap64 (t213))
                    · rw [if_pos c24] at H
                      have c24b0 : decide ((wrap64 ((y209.length : Int) - 20)) < (wrap64 (t213))) = true := decide_eq_true c24
                      clear c24
                      simp only [Option.some.injEq, Prod.mk.injEq] at H
                      obtain ⟨rfl, rfl, rfl, rfl, rfl⟩ := H
                      obtain ⟨hcz25_0, hcz25_1, hcz25_2, hfz25_0, hfz25_1, hfz25_2⟩ := cells3 BK208.out
                      go_wp2
                      refine bodyPost_ret (results_ctt rfl _ _ gb208 26 #[.int .u8 0, .int .u64 0, .slice none 0 0] (0, 0) _ rfl (by refine upK ?_; refine blk_put (cs := #[.int .u8 0, .int .u64 0, .slice none 0 0]) ?_ 2 _ rfl; refine upK ?_; refine blk_put (cs := #[.int .u8 0, .int .u64 0, .slice none 0 0]) ?_ 1 _ rfl; refine upK ?_; refine blk_put (cs := #[.int .u8 0, .int .u64 0, .slice none 0 0]) ?_ 0 _ rfl; refine upK ?_; exact BK208.out) Try.underlying26 rfl (by kernel_rfl)) rfl ?_
                      exact ⟨_, by first | rfl | (simp [errW_none, errW_some] <;> rfl) | (simp [*, errW_none, errW_some] <;> rfl), by first | exact Kd.R_nil _ _ _ _ _ | exact Kd.N_nil _ _ _ _ _ | exact Kd.V_nil _ _ _ _ _ | exact Kd.Q_nil _ _ _ _ _ | exact Kd.S_nil _ _ _ _ _, upB1 HB.out GE208.out⟩
                    · rw [if_neg c24] at H
                      have c24b0 : decide ((wrap64 ((y209.length : Int) - 20)) < (wrap64 (t213))) = false := decide_eq_false c24
                      clear c24
                      obtain ⟨ji26, hji26⟩ : ∃ j_ : Int, (wrap64 (20 + (wrap64 (t213)))) = j_ := ⟨_, rfl⟩
                      replace H : (if 0 ≤ (ji26) then (if (ji26) ≤ (y209.length : Int) then ((plinthref02_Open.f kj13 (y209.take ((ji26) : Int).toNat)).bind fun bt223 => (if bt223.2 = 0 then ((plinthref01_Get.f kj13 y209 4 8).bind fun bt227 => (if 2 < (y209.length : Int) then ((some (([] : List Int) : List Int)).bind fun y231 => (if 16 ≤ (wrap64 (16 + (wrap64 (t213)))) then (if (wrap64 (16 + (wrap64 (t213)))) ≤ (y209.length : Int) then ((some ((y209.take ((wrap64 (16 + (wrap64 (t213)))) : Int).toNat).drop 16 : List Int)).bind fun y234 => (if y231.length + y234.length < 140737488355328 then (some (rd y209 2, bt227.1, (y231 ++ y234), wrap64 ((wrap64 (a1 + 20)) + (wrap64 (t213))), 0)) else (none))) else (none)) else (none))) else (none))) else (some (0, 0, ([] : List Int), 0, 31)))) else (none)) else (none)) = some (r1, r2, r3, r4, r5) := by first | (rw [hji26] at H; exact H) | (simp only [hji26] at H ⊢; exact H)
                      have hji26w : (IntKind.i64.wrap (20 + (wrap64 (t213)))) = ji26 := (i64_w _).trans hji26
                      by_cases c27 : 0 ≤ (ji26)
                      · rw [if_pos c27] at H
                        have c27b0 := eq_true c27
                        have c27b1 : decide (0 ≤ (ji26)) = true := decide_eq_true c27
                        clear c27
                        by_cases c28 : (ji26) ≤ (y209.length : Int)
                        · rw [if_pos c28] at H
                          have c28b0 := eq_true c28
                          have c28b1 : decide ((ji26) ≤ (y209.length : Int)) = true := decide_eq_true c28
                          clear c28
                          obtain ⟨y219, hy219⟩ : ∃ y_ : List Int, y_ = (y209.take ((ji26) : Int).toNat) := ⟨_, rfl⟩
                          replace H : ((plinthref02_Open.f kj13 y219).bind fun bt223 => (if bt223.2 = 0 then ((plinthref01_Get.f kj13 y209 4 8).bind fun bt227 => (if 2 < (y209.length : Int) then ((some (([] : List Int) : List Int)).bind fun y231 => (if 16 ≤ (wrap64 (16 + (wrap64 (t213)))) then (if (wrap64 (16 + (wrap64 (t213)))) ≤ (y209.length : Int) then ((some ((y209.take ((wrap64 (16 + (wrap64 (t213)))) : Int).toNat).drop 16 : List Int)).bind fun y234 => (if y231.length + y234.length < 140737488355328 then (some (rd y209 2, bt227.1, (y231 ++ y234), wrap64 ((wrap64 (a1 + 20)) + (wrap64 (t213))), 0)) else (none))) else (none)) else (none))) else (none))) else (some (0, 0, ([] : List Int), 0, 31)))) = some (r1, r2, r3, r4, r5) := by first | (rw [hy219]; with_reducible exact H) | (have H2_ := (Option.bind_some _ _).symm.trans H; rw [hy219]; with_reducible exact H2_) | (have H2_ := (Option.bind_some _ _).symm.trans H; with_reducible exact H2_) | with_reducible exact H | (rw [hy219]; exact H) | exact H
                          have Ny219 := Aside0.mk hy219
                          clear hy219
                          replace H := Option.bind_eq_some_iff.mp H
                          obtain ⟨⟨t223, t224⟩, A290, H⟩ := H
                          replace H : (if t224 = 0 then ((plinthref01_Get.f kj13 y209 4 8).bind fun bt227 => (if 2 < (y209.length : Int) then ((some (([] : List Int) : List Int)).bind fun y231 => (if 16 ≤ (wrap64 (16 + (wrap64 (t213)))) then (if (wrap64 (16 + (wrap64 (t213)))) ≤ (y209.length : Int) then ((some ((y209.take ((wrap64 (16 + (wrap64 (t213)))) : Int).toNat).drop 16 : List Int)).bind fun y234 => (if y231.length + y234.length < 140737488355328 then (some (rd y209 2, bt227.1, (y231 ++ y234), wrap64 ((wrap64 (a1 + 20)) + (wrap64 (t213))), 0)) else (none))) else (none)) else (none))) else (none))) else (some (0, 0, ([] : List Int), 0, 31))) = some (r1, r2, r3, r4, r5) := H
                          have A29 := Aside0.mk A290
                          clear A290
                          by_cases c30 : t224 = 0
                          · rw [if_pos c30] at H
                            have c30b0 : (t224 == 0) = true := beq_iff_eq.mpr c30
                            have c30b1 : (t224 != 0) = false := bne_eq_false_iff_eq.mpr c30
                            clear c30
                            replace H := Option.bind_eq_some_iff.mp H
                            obtain ⟨⟨t227, t228, t229⟩, A310, H⟩ := H
                            replace H : (if 2 < (y209.length : Int) then ((some (([] : List Int) : List Int)).bind fun y231 => (if 16 ≤ (wrap64 (16 + (wrap64 (t213)))) then (if (wrap64 (16 + (wrap64 (t213)))) ≤ (y209.length : Int) then ((some ((y209.take ((wrap64 (16 + (wrap64 (t213)))) : Int).toNat).drop 16 : List Int)).bind fun y234 => (if y231.length + y234.length < 140737488355328 then (some (rd y209 2, t227, (y231 ++ y234), wrap64 ((wrap64 (a1 + 20)) + (wrap64 (t213))), 0)) else (none))) else (none)) else (none))) else (none)) = some (r1, r2, r3, r4, r5) := H
                            have A31 := Aside0.mk A310
                            clear A310
                            by_cases c32 : 2 < (y209.length : Int)
                            · rw [if_pos c32] at H
                              have c32b0 : decide (2 < (y209.length : Int)) = true := decide_eq_true c32
                              have c32b1 : decide (2 < y209.length) = true := decide_eq_true (by omega)
                              clear c32
                              obtain ⟨y231, hy231⟩ : ∃ y_ : List Int, y_ = (([] : List Int)) := ⟨_, rfl⟩
                              replace H : (if 16 ≤ (wrap64 (16 + (wrap64 (t213)))) then (if (wrap64 (16 + (wrap64 (t213)))) ≤ (y209.length : Int) then ((some ((y209.take ((wrap64 (16 + (wrap64 (t213)))) : Int).toNat).drop 16 : List Int)).bind fun y234 => (if y231.length + y234.length < 140737488355328 then (some (rd y209 2, t227, (y231 ++ y234), wrap64 ((wrap64 (a1 + 20)) + (wrap64 (t213))), 0)) else (none))) else (none)) else (none)) = some (r1, r2, r3, r4, r5) := by first | (rw [hy231]; with_reducible exact H) | (have H2_ := (Option.bind_some _ _).symm.trans H; rw [hy231]; with_reducible exact H2_) | (have H2_ := (Option.bind_some _ _).symm.trans H; with_reducible exact H2_) | with_reducible exact H | (rw [hy231]; exact H) | exact H
                              have Ny231 := Aside0.mk hy231
                              clear hy231
                              by_cases c33 : 16 ≤ (wrap64 (16 + (wrap64 (t213))))
                              · rw [if_pos c33] at H
                                have c33b0 := eq_true c33
                                have c33b1 : decide (16 ≤ (wrap64 (16 + (wrap64 (t213))))) = true := decide_eq_true c33
                                by_cases c34 : (wrap64 (16 + (wrap64 (t213)))) ≤ (y209.length : Int)
                                · rw [if_pos c34] at H
                                  have c34b0 := eq_true c34
                                  have c34b1 : decide ((wrap64 (16 + (wrap64 (t213)))) ≤ (y209.length : Int)) = true := decide_eq_true c34
                                  obtain ⟨y234, hy234⟩ : ∃ y_ : List Int, y_ = ((y209.take ((wrap64 (16 + (wrap64 (t213)))) : Int).toNat).drop 16) := ⟨_, rfl⟩
                                  replace H : (if y231.length + y234.length < 140737488355328 then (some (rd y209 2, t227, (y231 ++ y234), wrap64 ((wrap64 (a1 + 20)) + (wrap64 (t213))), 0)) else (none)) = some (r1, r2, r3, r4, r5) := by first | (rw [hy234]; with_reducible exact H) | (have H2_ := (Option.bind_some _ _).symm.trans H; rw [hy234]; with_reducible exact H2_) | (have H2_ := (Option.bind_some _ _).symm.trans H; with_reducible exact H2_) | with_reducible exact H | (rw [hy234]; exact H) | exact H
                                  have Ny234 := Aside0.mk hy234
                                  clear hy234
                                  by_cases c35 : y231.length + y234.length < 140737488355328
                                  · rw [if_pos c35] at H
                                    have LMc35 := Aside0.mk c35
                                    clear c35
                                    obtain ⟨y238, hy238⟩ : ∃ y_ : List Int, y_ = (y231 ++ y234) := ⟨_, rfl⟩
                                    replace H : (some (rd y209 2, t227, y238, wrap64 ((wrap64 (a1 + 20)) + (wrap64 (t213))), 0)) = some (r1, r2, r3, r4, r5) := by first | (rw [hy238]; with_reducible exact H) | (have H2_ := (Option.bind_some _ _).symm.trans H; rw [hy238]; with_reducible exact H2_) | (have H2_ := (Option.bind_some _ _).symm.trans H; with_reducible exact H2_) | with_reducible exact H | (rw [hy238]; exact H) | exact H
                                    have Ny238 := Aside0.mk hy238
                                    clear hy238
                                    simp only [Option.some.injEq, Prod.mk.injEq] at H
                                    obtain ⟨rfl, rfl, rfl, rfl, rfl⟩ := H
                                    have q36 : ((ji26) : Int) ≤ ((y209.length : Int) : Int) := of_decide_eq_true (by first | (with_reducible assumption) | assumption)
                                    obtain ⟨i036, hi036, _, hsz36, _⟩ := info_parts info5
                                    have hroom36 : y209.length ≤ c15 := HC212.out
                                    have hC36 : Kd.C (Kd.int .u8) _ A15 y209.length y209 := HR212.out
                                    have hcut36 := cut_to (P := Try.prog) 22 5 .i64 Try.underlying22 hi036 A15 y209.length c15 (ji26) (of_decide_eq_true (by first | (with_reducible assumption) | assumption)) q36 hroom36
                                    have hr36 := Kd.C_take (m := ((ji26) : Int).toNat) hC36 (by omega)
                                    have hy36 : y219.length = ((ji26) : Int).toNat := (by rw [Ny219.out, List.length_take]; omega)
                                    rw [← Ny219.out] at hr36
                                    rw [← hy36] at hcut36
                                    have HR222 := Aside0.mk hr36
                                    have HC222 := Aside0.mk (show y219.length ≤ c15 from by omega)
                                    clear hr36 hC36 hroom36 hi036 hsz36
                                    have KY36 := Aside0.mk hy36
                                    clear hy36
                                    replace q36 := eq_true q36
                                    try go_wp2_with (first | ((with_reducible refine gate_callee (f := 27) rfl ?_); refine goesL_ (some 72) rfl rfl Try.func27 (by kernel_rfl) rfl #[.slice A15 y219.length c15] rfl argA ?_; (with_reducible refine (plinthref02_Open.calls kj13 _ _ y219 t223 t224 _ ?side1 ?side2 A29.out).mono ?_); (case side1 => exact upC ((Kd.C_below HR222.out HB.out))); (case side2 => exact HC222.out); rintro e w37 ⟨v225, rfl, ho0, hb⟩; refine ⟨_, rfl, ?_⟩; have HO226 := Aside0.mk (Kd.R_lower ho0 (below_size (upB1 HB.out GE208.out))); replace BK208 := Aside0.mk (blk_below (upK BK208.out) hb); replace HB := Aside0.mk (below_step (upB1 HB.out GE208.out) hb); (try clear hb); (try clear hb2); (try clear hk); (try clear hi); (try clear ho0)) | ((with_reducible refine gate_callee (f := 26) rfl ?_); refine goesL_ (some 80) rfl rfl Try.func26 (by kernel_rfl) rfl #[.slice A15 y209.length c15, .int .i64 4, .int .i64 8] rfl argA ?_; (with_reducible refine (plinthref01_Get.calls kj13 _ _ y209 4 8 t227 t228 t229 _ ?side1 ?side2 A31.out).mono ?_); (case side1 => exact upC ((Kd.C_below HR212.out HB.out))); (case side2 => exact HC212.out); rintro e w' ⟨rfl, ⟨nd, rfl⟩⟩; refine ⟨_, rfl, ?_⟩; (try (rw [drewN_self w37]; generalize hq_ : World.drewN w37 _ = w37; have n0_ : Aside0 (Kd.R (Kd.int .u8) 5 w37 w.heap.size (fun _ => True) v225 t223) := ⟨by rw [← hq_]; exact (upR HO226.out)⟩; have n1_ : Aside0 (w37.heap[gb208]? = some (.cells #[.int .u8 0, .int .u64 0, .slice none 0 0] 26 (0, 0))) := ⟨by rw [← hq_]; exact (upK BK208.out)⟩; have n2_ : Aside0 (Below w.heap.size w w37) := ⟨by rw [← hq_]; exact (upB1 HB.out GE208.out)⟩; clear HO226 BK208 HB hq_; have HO226 := n0_; have BK208 := n1_; have HB := n2_; clear n0_ n1_ n2_))))
                                    replace HO226 := Aside0.mk (Kd.R_drew HO226.out)
                                    replace BK208 := Aside0.mk (blk_drew BK208.out)
                                    replace HB := Aside0.mk (below_drew1 HB.out)
                                    have p230 : 0 ≤ (2 : Int) := (by omega)
                                    have q230 : 2 < (y209.length : Int) := of_decide_eq_true (by first | (with_reducible assumption) | assumption)
                                    obtain ⟨ad230, e230, hx230_0⟩ := Kd.at_int HR212.out 2 p230 q230
                                    have hw230_0 := hx230_0
                                    (try rw [show ((2 : Int)).toNat = 2 from rfl] at hw230_0)
                                    (try rw [show 2 * 1 = 2 from rfl] at hw230_0)
                                    (try simp only [Nat.reduceMul, Nat.reduceEqDiff, Go.Addr.add, ↓reduceIte] at hw230_0)
                                    cases e230
                                    (try simp only [show (2 : Int).toNat = 2 from rfl, Nat.reduceMul, Nat.reduceEqDiff, Go.Addr.add, ↓reduceIte] at hx230_0)
                                    have qi230 : (2 < y209.length) = True := eq_true (by omega)
                                    (try rw [show ((2 : Int)).toNat = 2 from rfl] at hx230_0)
                                    replace hx230_0 := (HB.out.cell (World.block_lt_of_cell? w _ hx230_0)).trans hx230_0
                                    replace p230 := eq_true p230
                                    replace q230 := eq_true q230
                                    have q39 : ((wrap64 (16 + (wrap64 (t213)))) : Int) ≤ ((y209.length : Int) : Int) := of_decide_eq_true (by first | (with_reducible assumption) | assumption)
                                    obtain ⟨i039, hi039, _, hsz39, _⟩ := info_parts info5
                                    have hroom39 : y209.length ≤ c15 := HC212.out
                                    have hC39 : Kd.C (Kd.int .u8) _ (some ad230) y209.length y209 := HR212.out
                                    have ql39 : (16 : Int) ≤ ((wrap64 (16 + (wrap64 (t213)))) : Int) := of_decide_eq_true (by first | (with_reducible assumption) | assumption)
                                    have hcut39 := cut_mid (P := Try.prog) 22 5 .i64 .i64 Try.underlying22 hi039 1 hsz39 (some ad230) y209.length c15 16 (wrap64 (16 + (wrap64 (t213)))) (by omega) ql39 q39 hroom39
                                    have hr39 := Kd.C_mid (lo := (16 : Int).toNat) (hi := ((wrap64 (16 + (wrap64 (t213)))) : Int).toNat) (c := c15) hC39 (by omega) (by omega) hroom39
                                    obtain ⟨A39, hA39⟩ : ∃ A1, A1 = (if c15 = (16 : Int).toNat then (some ad230) else ((some ad230) : Option Addr).map (·.add ((16 : Int).toNat * 1))) := ⟨_, rfl⟩
                                    obtain ⟨c39, hc39⟩ : ∃ c1, c1 = c15 - (16 : Int).toNat := ⟨_, rfl⟩
                                    have hy39 : y234.length = ((wrap64 (16 + (wrap64 (t213)))) : Int).toNat - (16 : Int).toNat := (by rw [Ny234.out, List.length_drop, List.length_take] <;> omega)
                                    rw [show ((y209).take ((wrap64 (16 + (wrap64 (t213)))) : Int).toNat).drop (16 : Int).toNat = y234 from Ny234.out.symm] at hr39
                                    replace hr39 : Kd.C (Kd.int .u8) _ A39 y234.length y234 := (by rw [hA39]; exact hr39)
                                    rw [← hy39, ← hA39, ← hc39] at hcut39
                                    have HR237 := Aside0.mk hr39
                                    have HC237 := Aside0.mk (show y234.length ≤ c39 from by rw [hy39, hc39]; exact Nat.sub_le_sub_right (Nat.le_trans (by omega) hroom39) _)
                                    clear hr39 hC39 hroom39 hi039 hsz39 hc39
                                    have KY39 := Aside0.mk hy39
                                    have KA39 := Aside0.mk hA39
                                    clear hy39 hA39
                                    replace q39 := eq_true q39
                                    refine start_ (n := 20) (S := fun w' => w'.cell? ⟨ad230.block, ad230.off + 2, none⟩ = some (.int .u8 (rd y209 2))) (ds := []) #[false, false, false, false, false, false, false, false, false, false, false, false, false, false, false, false, false, false, false, false] (by kernel_rfl) rfl rfl (((HB.out.cell (World.block_lt_of_cell? w _ hw230_0)).trans hw230_0)) (fun hHeld => ?_); refine with_tabW plinthref03_Read.tab15 plinthref03_Read.bits15 (fun HT_ HW_ => ?_)
                                    generalize w37.drew = w38 at HO226 BK208 HB HR237 hx230_0 hHeld ⊢
                                    refine pure_ (i := 0) (N := some 84) (v := ?_) (a' := ?_) #[true, false, false, false, false, false, false, false, false, false, false, false, false, false, false, false, false, false, false, false] rfl rfl (any_of HT_.out (by kernel_rfl)) (fun _ _ _ h => h) (Or.inl ⟨by rfl, ?_⟩) ?_ ?_
                                    rotate_left
                                    · intro w'
                                      go_simp
                                      with_reducible rfl
                                    rotate_left
                                    · simp only [Act.put, List.setIfInBounds_toArray, List.set_cons_zero, List.set_cons_succ, i64_w, i32_w]
                                      rfl
                                    refine pure_ (i := 1) (N := some 85) (v := ?_) (a' := ?_) #[true, true, false, false, false, false, false, false, false, false, false, false, false, false, false, false, false, false, false, false] rfl rfl (any_of HT_.out (by kernel_rfl)) (fun _ _ _ h => h) (Or.inl ⟨by rfl, ?_⟩) ?_ ?_
                                    rotate_left
                                    · intro w'
                                      go_simp
                                      with_reducible rfl
                                    rotate_left
                                    · simp only [Act.put, List.setIfInBounds_toArray, List.set_cons_zero, List.set_cons_succ, i64_w, i32_w]
                                      rfl
                                    refine pure_ (i := 3) (N := some 87) (v := ?_) (a' := ?_) #[true, true, false, true, false, false, false, false, false, false, false, false, false, false, false, false, false, false, false, false] rfl rfl (any_of HT_.out (by kernel_rfl)) (fun _ _ _ h => h) (Or.inl ⟨by rfl, ?_⟩) ?_ ?_
                                    rotate_left
                                    · intro w'
                                      go_simp
                                      with_reducible rfl
                                    rotate_left
                                    · simp only [Act.put, List.setIfInBounds_toArray, List.set_cons_zero, List.set_cons_succ, i64_w, i32_w]
                                      rfl
                                    refine pure_ (i := 5) (N := some 89) (v := ?_) (a' := ?_) #[true, true, false, true, false, true, false, false, false, false, false, false, false, false, false, false, false, false, false, false] rfl rfl (any_of HT_.out (by kernel_rfl)) (fun _ _ _ h => h) (Or.inl ⟨by rfl, ?_⟩) ?_ ?_
                                    rotate_left
                                    · intro w'
                                      go_simp
                                      with_reducible rfl
                                    rotate_left
                                    · simp only [Act.put, List.setIfInBounds_toArray, List.set_cons_zero, List.set_cons_succ, i64_w, i32_w]
                                      rfl
                                    refine pure_ (i := 6) (N := some 90) (v := ?_) (a' := ?_) #[true, true, false, true, false, true, true, false, false, false, false, false, false, false, false, false, false, false, false, false] rfl rfl (any_of HT_.out (by kernel_rfl)) (fun _ _ _ h => h) (Or.inl ⟨by rfl, ?_⟩) ?_ ?_
                                    rotate_left
                                    · intro w'
                                      go_simp
                                      with_reducible rfl
                                    rotate_left
                                    · simp only [Act.put, List.setIfInBounds_toArray, List.set_cons_zero, List.set_cons_succ, i64_w, i32_w]
                                      rfl
                                    refine pure_ (i := 7) (N := some 91) (v := ?_) (a' := ?_) #[true, true, false, true, false, true, true, true, false, false, false, false, false, false, false, false, false, false, false, false] rfl rfl (any_of HT_.out (by kernel_rfl)) (fun _ _ _ h => h) (Or.inl ⟨by rfl, ?_⟩) ?_ ?_
                                    rotate_left
                                    · intro w'
                                      go_simp
                                      with_reducible rfl
                                    rotate_left
                                    · simp only [Act.put, List.setIfInBounds_toArray, List.set_cons_zero, List.set_cons_succ, i64_w, i32_w]
                                      rfl
                                    refine pure_ (i := 8) (N := some 92) (v := ?_) (a' := ?_) #[true, true, false, true, false, true, true, true, true, false, false, false, false, false, false, false, false, false, false, false] rfl rfl (any_of HT_.out (by kernel_rfl)) (fun _ _ _ h => h) (Or.inl ⟨by rfl, ?_⟩) ?_ ?_
                                    rotate_left
                                    · intro w'
                                      go_simp
                                      with_reducible rfl
                                    rotate_left
                                    · simp only [Act.put, List.setIfInBounds_toArray, List.set_cons_zero, List.set_cons_succ, i64_w, i32_w]
                                      rfl
                                    refine pure_ (i := 9) (N := some 93) (v := ?_) (a' := ?_) #[true, true, false, true, false, true, true, true, true, true, false, false, false, false, false, false, false, false, false, false] rfl rfl (any_of HT_.out (by kernel_rfl)) (fun _ _ _ h => h) (Or.inl ⟨by rfl, ?_⟩) ?_ ?_
                                    rotate_left
                                    · intro w'
                                      go_simp
                                      with_reducible rfl
                                    rotate_left
                                    · simp only [Act.put, List.setIfInBounds_toArray, List.set_cons_zero, List.set_cons_succ, i64_w, i32_w]
                                      rfl
                                    refine pure_ (i := 12) (N := some 96) (v := ?_) (a' := ?_) #[true, true, false, true, false, true, true, true, true, true, false, false, true, false, false, false, false, false, false, false] rfl rfl (any_of HT_.out (by kernel_rfl)) (fun _ _ _ h => h) (Or.inl ⟨by rfl, ?_⟩) ?_ ?_
                                    rotate_left
                                    · intro w'
                                      go_simp
                                      with_reducible rfl
                                    rotate_left
                                    · simp only [Act.put, List.setIfInBounds_toArray, List.set_cons_zero, List.set_cons_succ, i64_w, i32_w]
                                      rfl
                                    refine pure_ (i := 13) (N := some 97) (v := ?_) (a' := ?_) #[true, true, false, true, false, true, true, true, true, true, false, false, true, true, false, false, false, false, false, false] rfl rfl (any_of HT_.out (by kernel_rfl)) (fun _ _ _ h => h) (Or.inl ⟨by rfl, ?_⟩) ?_ ?_
                                    rotate_left
                                    · intro w'
                                      go_simp
                                      with_reducible rfl
                                    rotate_left
                                    · simp only [Act.put, List.setIfInBounds_toArray, List.set_cons_zero, List.set_cons_succ, i64_w, i32_w]
                                      rfl
                                    refine pure_ (i := 14) (N := some 98) (v := ?_) (a' := ?_) #[true, true, false, true, false, true, true, true, true, true, false, false, true, true, true, false, false, false, false, false] rfl rfl (any_of HT_.out (by kernel_rfl)) (fun _ _ _ h => h) (Or.inl ⟨by rfl, ?_⟩) ?_ ?_
                                    rotate_left
                                    · intro w'
                                      go_simp
                                      with_reducible rfl
                                    rotate_left
                                    · simp only [Act.put, List.setIfInBounds_toArray, List.set_cons_zero, List.set_cons_succ, i64_w, i32_w]
                                      rfl
                                    refine pure_ (i := 15) (N := some 99) (v := ?_) (a' := ?_) #[true, true, false, true, false, true, true, true, true, true, false, false, true, true, true, true, false, false, false, false] rfl rfl (any_of HT_.out (by kernel_rfl)) (fun _ _ _ h => h) (Or.inl ⟨by rfl, ?_⟩) ?_ ?_
                                    rotate_left
                                    · intro w'
                                      go_simp
                                      with_reducible rfl
                                    rotate_left
                                    · simp only [Act.put, List.setIfInBounds_toArray, List.set_cons_zero, List.set_cons_succ, i64_w, i32_w]
                                      rfl
                                    refine pure_ (i := 16) (N := some 100) (v := ?_) (a' := ?_) #[true, true, false, true, false, true, true, true, true, true, false, false, true, true, true, true, true, false, false, false] rfl rfl (any_of HT_.out (by kernel_rfl)) (fun _ _ _ h => h) (Or.inl ⟨by rfl, ?_⟩) ?_ ?_
                                    rotate_left
                                    · intro w'
                                      go_simp
                                      with_reducible rfl
                                    rotate_left
                                    · simp only [Act.put, List.setIfInBounds_toArray, List.set_cons_zero, List.set_cons_succ, i64_w, i32_w]
                                      rfl
                                    refine take_ (i := 2) (N := some 86) (v := ?_) (a' := ?_) #[true, true, true, true, false, true, true, true, true, true, false, false, true, true, true, true, true, false, false, false] rfl rfl (take_ofW HT_.out HW_.out (by kernel_rfl)) (fun _ _ _ h => h) (Or.inl ⟨by rfl, ?_⟩) hHeld ?_ ?_
                                    rotate_left
                                    · intro w' s0
                                      go_simp
                                      with_reducible rfl
                                    rotate_left
                                    · simp only [Act.put, List.setIfInBounds_toArray, List.set_cons_zero, List.set_cons_succ, i64_w, i32_w]
                                      rfl
                                    refine one_ (i := 4) (N := some 88) #[true, true, true, true, true, true, true, true, true, true, false, false, true, true, true, true, true, false, false, false] rfl rfl (one_of HT_.out (by kernel_rfl)) (by decide) (fun K hK => ?_)
                                    refine Kd.R_lit_step (Kd.int .u8) _ 5 ?hg (N := 88) ?hd (xs := ([] : List Int)) (inner := []) (ok := fun _ => True) (okp := fun _ => True) ?hr ?hp (fun _ hk => hk) trivial (Below.refl _ _) (Nat.le_refl _) (by simp) ?_; (case hd => rfl); (case hg => rfl); (case hr => first | (go_simp; done) | (go_simp; rfl)); (case hp => exact (Reps.none _ _))
                                    intro v232 w40 ho41 hb hg_ hnew_
                                    clear hg_ hnew_
                                    (first | rw [← Ny231.out] at ho41 | (simp only [Int.reduceToNat] at ho41; rw [← Ny231.out] at ho41))
                                    have HO233 := Aside0.mk (Kd.R_lower (Kd.R_new' ho41 (Kd.R_lt (upR HO226.out))) (below_size (upB1 HB.out GE208.out)))
                                    replace HO226 := Aside0.mk (Kd.R_elder' (upR HO226.out) (Kd.R_base ho41) hb)
                                    replace BK208 := Aside0.mk (blk_below (upK BK208.out) hb)
                                    replace HB := Aside0.mk (below_step (upB1 HB.out GE208.out) hb)
                                    clear hb ho41
                                    refine hK.out _ _ (((HB.out.cell (World.block_lt_of_cell? w _ hw230_0)).trans hw230_0)) (fun hHeld => ?_)
                                    clear hK K
                                    refine norm_ (a' := ?_) ?_ ?_
                                    rotate_left
                                    · show Act.put _ (some 88) _ = _
                                      simp only [Act.put, List.setIfInBounds_toArray, List.set_cons_zero, List.set_cons_succ, i64_w, i32_w]
                                      rfl
                                    refine one_ (i := 10) (N := some 94) #[true, true, true, true, true, true, true, true, true, true, true, false, true, true, true, true, true, false, false, false] rfl rfl (one_of HT_.out (by kernel_rfl)) (by decide) (fun K hK => ?_)
                                    refine Kd.R_append_rows_step (Kd.int .u8) (w0 := w) w.heap.size (by rfl) (.tmp 88) (.tmp 93) 22 5 (.int .u8 0) 1 rfl Try.underlying22 info5 rfl (by decide) (by omega) v232 y231 y234 _ _ _ (fun k_ => some k_ ≠ (v225 : Value).ownBlock) (fun _ => False) rfl rfl ?aO ?aR (fun _ _ h => h) (fun _ h => h.elim) ?aF ?aB ?aS ?aL ?_
                                    (case aR => exact upC ((Kd.C_below HR237.out HB.out)))
                                    (case aB => exact (upB1 HB.out GE208.out))
                                    (case aF => exact (fun k_ hk => Kd.fresh' (Kd.R_lt (upR HO226.out)) k_ hk))
                                    (case aO => exact (by refine upR ?_; exact Kd.R_mono HO233.out (fun _ hk => hk.2)))
                                    (case aS => exact (below_size (upB1 HB.out GE208.out)))
                                    (case aL => have := LMc35.out; omega)
                                    intro v239 w42 ho hb hg hat
                                    rw [← Ny238.out] at ho
                                    have n0_ := Aside0.mk (blk_grown (upK BK208.out) hg (Kd.R_ne HO233.out BK208.out (by decide)))
                                    have n1_ := Aside0.mk (Kd.R_after (ok := (fun _ => True)) (upR HO226.out) hg hat)
                                    have n2_ := Aside0.mk (hb)
                                    have n3_ := Aside0.mk (ho)
                                    clear BK208
                                    clear HO226
                                    clear HB
                                    clear HO233
                                    have BK208 := n0_
                                    have HO226 := n1_
                                    have HB := n2_
                                    have HO240 := n3_
                                    clear n0_ n1_ n2_ n3_
                                    clear ho hb hg hat
                                    obtain ⟨Ao43, co43, eo43⟩ := Kd.R_slice HO240.out
                                    (first | subst eo43 | (injection eo43 with f1_ f2_ f3_; have f4_ := f1_.symm; have f5_ := f3_.symm; clear f1_ f2_ f3_; subst f4_; subst f5_))
                                    refine hK.out _ _ (((HB.out.cell (World.block_lt_of_cell? w _ hw230_0)).trans hw230_0)) (fun hHeld => ?_)
                                    clear hK K
                                    refine norm_ (a' := ?_) ?_ ?_
                                    rotate_left
                                    · show Act.put _ (some 94) _ = _
                                      simp only [Act.put, List.setIfInBounds_toArray, List.set_cons_zero, List.set_cons_succ, i64_w, i32_w]
                                      rfl
                                    refine pure_ (i := 11) (N := some 95) (v := ?_) (a' := ?_) #[true, true, true, true, true, true, true, true, true, true, true, true, true, true, true, true, true, false, false, false] rfl rfl (any_of HT_.out (by kernel_rfl)) (fun _ _ _ h => h) (Or.inl ⟨by rfl, ?_⟩) ?_ ?_
                                    rotate_left
                                    · intro w'
                                      go_simp
                                      with_reducible rfl
                                    rotate_left
                                    · simp only [Act.put, List.setIfInBounds_toArray, List.set_cons_zero, List.set_cons_succ, i64_w, i32_w]
                                      rfl
                                    refine one_ (i := 17) (N := none) #[true, true, true, true, true, true, true, true, true, true, true, true, true, true, true, true, true, true, false, false] rfl rfl (one_of HT_.out (by kernel_rfl)) (by decide) (fun K hK => ?_)
                                    have hs44 : w42.cell? ⟨gb208, 0, none⟩ = some (.int .u8 0) := (blk_cell BK208.out 0).trans rfl
                                    have hfs44 := blk_frozen BK208.out 0
                                    have hs45 : w42.cell? ⟨gb208, 1, none⟩ = some (.int .u64 0) := (blk_cell BK208.out 1).trans rfl
                                    have hfs45 := blk_frozen BK208.out 1
                                    have hs46 : w42.cell? ⟨gb208, 2, none⟩ = some (.slice none 0 0) := (blk_cell BK208.out 2).trans rfl
                                    have hfs46 := blk_frozen BK208.out 2
                                    refine skip_ (w1 := ?_) (by rfl) rfl ?_ ?_
                                    rotate_left
                                    · go_simp
                                      rfl
                                    refine hK.out _ _ (((cell_far (p := ⟨gb208, _, none⟩) (by first | exact Nat.ne_of_lt (Nat.lt_of_lt_of_le (by have := World.block_lt_of_cell? _ _ hw230_0; first | rwa [add_block] at this | exact this) GW208.out) | (rw [add_block]; exact Nat.ne_of_lt (Nat.lt_of_lt_of_le (by have := World.block_lt_of_cell? _ _ hw230_0; first | rwa [add_block] at this | exact this) GW208.out)) | (show (Addr.add _ _).block ≠ _; rw [add_block]; exact Nat.ne_of_lt (Nat.lt_of_lt_of_le (by have := World.block_lt_of_cell? _ _ hw230_0; first | rwa [add_block] at this | exact this) GW208.out)) | (dsimp only; exact Nat.ne_of_lt (Nat.lt_of_lt_of_le (by have := World.block_lt_of_cell? _ _ hw230_0; first | rwa [add_block] at this | exact this) GW208.out))) _).trans (((cell_far (p := ⟨gb208, _, none⟩) (by first | exact Nat.ne_of_lt (Nat.lt_of_lt_of_le (by have := World.block_lt_of_cell? _ _ hw230_0; first | rwa [add_block] at this | exact this) GW208.out) | (rw [add_block]; exact Nat.ne_of_lt (Nat.lt_of_lt_of_le (by have := World.block_lt_of_cell? _ _ hw230_0; first | rwa [add_block] at this | exact this) GW208.out)) | (show (Addr.add _ _).block ≠ _; rw [add_block]; exact Nat.ne_of_lt (Nat.lt_of_lt_of_le (by have := World.block_lt_of_cell? _ _ hw230_0; first | rwa [add_block] at this | exact this) GW208.out)) | (dsimp only; exact Nat.ne_of_lt (Nat.lt_of_lt_of_le (by have := World.block_lt_of_cell? _ _ hw230_0; first | rwa [add_block] at this | exact this) GW208.out))) _).trans (((cell_far (p := ⟨gb208, _, none⟩) (by first | exact Nat.ne_of_lt (Nat.lt_of_lt_of_le (by have := World.block_lt_of_cell? _ _ hw230_0; first | rwa [add_block] at this | exact this) GW208.out) | (rw [add_block]; exact Nat.ne_of_lt (Nat.lt_of_lt_of_le (by have := World.block_lt_of_cell? _ _ hw230_0; first | rwa [add_block] at this | exact this) GW208.out)) | (show (Addr.add _ _).block ≠ _; rw [add_block]; exact Nat.ne_of_lt (Nat.lt_of_lt_of_le (by have := World.block_lt_of_cell? _ _ hw230_0; first | rwa [add_block] at this | exact this) GW208.out)) | (dsimp only; exact Nat.ne_of_lt (Nat.lt_of_lt_of_le (by have := World.block_lt_of_cell? _ _ hw230_0; first | rwa [add_block] at this | exact this) GW208.out))) _).trans (hHeld))))))) (fun hHeld => ?_)
                                    clear hK K
                                    refine pure_ (i := 18) (N := some 5) (v := ?_) (a' := ?_) #[true, true, true, true, true, true, true, true, true, true, true, true, true, true, true, true, true, true, true, false] rfl rfl (any_of HT_.out (by kernel_rfl)) (fun _ _ _ h => h) (Or.inl ⟨by rfl, ?_⟩) ?_ ?_
                                    rotate_left
                                    · intro w'
                                      go_simp
                                      with_reducible rfl
                                    rotate_left
                                    · simp only [Act.put, List.setIfInBounds_toArray, List.set_cons_zero, List.set_cons_succ, i64_w, i32_w]
                                      rfl
                                    refine pure_ (i := 19) (N := some 6) (v := ?_) (a' := ?_) #[true, true, true, true, true, true, true, true, true, true, true, true, true, true, true, true, true, true, true, true] rfl rfl (any_of HT_.out (by kernel_rfl)) (fun _ _ _ h => h) (Or.inl ⟨by rfl, ?_⟩) ?_ ?_
                                    rotate_left
                                    · intro w'
                                      go_simp
                                      with_reducible rfl
                                    rotate_left
                                    · simp only [Act.put, List.setIfInBounds_toArray, List.set_cons_zero, List.set_cons_succ, i64_w, i32_w]
                                      rfl
                                    refine done_ (done_of HT_.out (by kernel_rfl)) ?_
                                    try go_wp2
                                    refine bodyPost_ret (results_ctt rfl _ _ gb208 26 #[.int .u8 (rd y209 2), .int .u64 t227, .slice Ao43 y238.length co43] (0, 0) _ rfl (by refine upK ?_; refine blk_put (cs := #[.int .u8 (rd y209 2), .int .u64 t227, .slice none 0 0]) ?_ 2 _ rfl; refine upK ?_; refine blk_put (cs := #[.int .u8 (rd y209 2), .int .u64 0, .slice none 0 0]) ?_ 1 _ rfl; refine upK ?_; refine blk_put (cs := #[.int .u8 0, .int .u64 0, .slice none 0 0]) ?_ 0 _ rfl; refine upK ?_; exact BK208.out) Try.underlying26 rfl (by kernel_rfl)) rfl ?_
                                    exact ⟨_, by first | rfl | (simp [errW_none, errW_some] <;> rfl) | (simp only [← hji26]; first | rfl | (simp [errW_none, errW_some] <;> rfl)) | (simp [*, errW_none, errW_some] <;> rfl), by refine upR ?_; exact Kd.R_mono (garR3 (g := gb208) (Kd.R_types HO240.out BK208.out (by decide)) 0 (.int .u8 (rd y209 2)) 1 (.int .u64 t227) 2 (.slice Ao43 y238.length co43)) (fun _ hk => trivial), upB1 HB.out GE208.out⟩
                                  · rw [if_neg c35] at H
                                    exact absurd H (by simp)
                                · rw [if_neg c34] at H
                                  exact absurd H (by simp)
                              · rw [if_neg c33] at H
                                exact absurd H (by simp)
                            · rw [if_neg c32] at H
                              exact absurd H (by simp)
                          · rw [if_neg c30] at H
                            have c30b0 : (t224 == 0) = false := beq_eq_false_iff_ne.mpr c30
                            have c30b1 : (t224 != 0) = true := bne_iff_ne.mpr c30
                            simp only [Option.some.injEq, Prod.mk.injEq] at H
                            obtain ⟨rfl, rfl, rfl, rfl, rfl⟩ := H
                            have q47 : ((ji26) : Int) ≤ ((y209.length : Int) : Int) := of_decide_eq_true (by first | (with_reducible assumption) | assumption)
                            obtain ⟨i047, hi047, _, hsz47, _⟩ := info_parts info5
                            have hroom47 : y209.length ≤ c15 := HC212.out
                            have hC47 : Kd.C (Kd.int .u8) _ A15 y209.length y209 := HR212.out
                            have hcut47 := cut_to (P := Try.prog) 22 5 .i64 Try.underlying22 hi047 A15 y209.length c15 (ji26) (of_decide_eq_true (by first | (with_reducible assumption) | assumption)) q47 hroom47
                            have hr47 := Kd.C_take (m := ((ji26) : Int).toNat) hC47 (by omega)
                            have hy47 : y219.length = ((ji26) : Int).toNat := (by rw [Ny219.out, List.length_take]; omega)
                            rw [← Ny219.out] at hr47
                            rw [← hy47] at hcut47
                            have HR222 := Aside0.mk hr47
                            have HC222 := Aside0.mk (show y219.length ≤ c15 from by omega)
                            clear hr47 hC47 hroom47 hi047 hsz47
                            have KY47 := Aside0.mk hy47
                            clear hy47
                            replace q47 := eq_true q47
                            go_wp2_with (first | ((with_reducible refine gate_callee (f := 27) rfl ?_); refine goesL_ (some 72) rfl rfl Try.func27 (by kernel_rfl) rfl #[.slice A15 y219.length c15] rfl argA ?_; (with_reducible refine (plinthref02_Open.calls kj13 _ _ y219 t223 t224 _ ?side1 ?side2 A29.out).mono ?_); (case side1 => exact upC ((Kd.C_below HR222.out HB.out))); (case side2 => exact HC222.out); rintro e w48 ⟨v225, rfl, ho0, hb⟩; refine ⟨_, rfl, ?_⟩; have HO226 := Aside0.mk (Kd.R_lower ho0 (below_size (upB1 HB.out GE208.out))); replace BK208 := Aside0.mk (blk_below (upK BK208.out) hb); replace HB := Aside0.mk (below_step (upB1 HB.out GE208.out) hb); (try clear hb); (try clear hb2); (try clear hk); (try clear hi); (try clear ho0); obtain ⟨hcz49_0, hcz49_1, hcz49_2, hfz49_0, hfz49_1, hfz49_2⟩ := cells3 BK208.out))
                            refine bodyPost_ret (results_ctt rfl _ _ gb208 26 #[.int .u8 0, .int .u64 0, .slice none 0 0] (0, 0) _ rfl (by refine upK ?_; refine blk_put (cs := #[.int .u8 0, .int .u64 0, .slice none 0 0]) ?_ 2 _ rfl; refine upK ?_; refine blk_put (cs := #[.int .u8 0, .int .u64 0, .slice none 0 0]) ?_ 1 _ rfl; refine upK ?_; refine blk_put (cs := #[.int .u8 0, .int .u64 0, .slice none 0 0]) ?_ 0 _ rfl; refine upK ?_; exact BK208.out) Try.underlying26 rfl (by kernel_rfl)) rfl ?_
                            exact ⟨_, by first | rfl | (simp [errW_none, errW_some] <;> rfl) | (simp only [← hji26]; first | rfl | (simp [errW_none, errW_some] <;> rfl)) | (simp [*, errW_none, errW_some] <;> rfl), by first | exact Kd.R_nil _ _ _ _ _ | exact Kd.N_nil _ _ _ _ _ | exact Kd.V_nil _ _ _ _ _ | exact Kd.Q_nil _ _ _ _ _ | exact Kd.S_nil _ _ _ _ _, upB1 HB.out GE208.out⟩
                        · rw [if_neg c28] at H
                          exact absurd H (by simp)
                      · rw [if_neg c27] at H
                        exact absurd H (by simp)
          · rw [if_neg c9] at H
            exact absurd H (by simp)
        · rw [if_neg c8] at H
          exact absurd H (by simp)

end Go.Proofs.Ytcajcbeioilgmaa.F
