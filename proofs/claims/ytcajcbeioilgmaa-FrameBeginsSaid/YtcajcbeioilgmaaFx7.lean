-- Written by ext (this session's own program).
import Derived.Test.YtcajcbeioilgmaaFx0
import Derived.Test.YtcajcbeioilgmaaFx2
import Derived.Test.YtcajcbeioilgmaaFx6
namespace Go.Proofs.Ytcajcbeioilgmaa.F
open Go.RowKit Go.Proofs.YtcajcbeioilgmaaW.PrintWords Go.Proofs.YtcajcbeioilgmaaW.PrintLast Go.Proofs.YtcajcbeioilgmaaW.PrintMore
attribute [local go_sem] max2_int min2_int max_two min_two max_three min_three max_four min_four   -- for this text's walks alone
set_option linter.unusedVariables false
set_option linter.unusedSimpArgs false

/-! ### frame_Read: function 11 -/
mutual
def frame_Read.j0 : Nat → List Int → Int → Bool → Option (Int × Int × List Int × Int × Int)
  | 0, _, _, _ => none
  | k + 1, x0, x1, x24 => if x24 = true then (some (0, 0, ([] : List Int), 0, 5)) else (if 0 ≤ x1 then (if x1 ≤ (x0.length : Int) then ((some (x0.drop (x1 : Int).toNat : List Int)).bind fun y153 => (if (y153.length : Int) < 16 then (some (0, 0, ([] : List Int), 0, 10)) else ((octets_Get.f k y153 12 4).bind fun bt157 => (if 0 < (y153.length : Int) then (if (rd y153 0) = 80 then (if 1 < (y153.length : Int) then (if (rd y153 1) = 76 then (if 3 < (y153.length : Int) then (if (rd y153 3) = 0 then (frame_Read.j1 k x1 y153 bt157.1 (decide (bt157.1 > 16777216))) else (frame_Read.j1 k x1 y153 bt157.1 true)) else (none)) else (frame_Read.j1 k x1 y153 bt157.1 true)) else (none)) else (frame_Read.j1 k x1 y153 bt157.1 true)) else (none))))) else (none)) else (none))
def frame_Read.j1 : Nat → Int → List Int → Int → Bool → Option (Int × Int × List Int × Int × Int)
  | 0, _, _, _, _ => none
  | k + 1, x1, x7, x8, x58 => if x58 = true then (some (0, 0, ([] : List Int), 0, 30)) else (if (x7.length : Int) < (wrap64 ((wrap64 (x8)) + 20)) then (some (0, 0, ([] : List Int), 0, 10)) else (if 0 ≤ (wrap64 ((wrap64 (x8)) + 20)) then (if (wrap64 ((wrap64 (x8)) + 20)) ≤ (x7.length : Int) then ((crc_Open.f k (x7.take ((wrap64 ((wrap64 (x8)) + 20)) : Int).toNat)).bind fun bt167 => (if bt167.2 = 0 then ((octets_Get.f k bt167.1 4 8).bind fun bt171 => (if 2 < (bt167.1.length : Int) then (if 16 ≤ (bt167.1.length : Int) then (some (rd bt167.1 2, bt171.1, (bt167.1.drop (16 : Int).toNat), wrap64 (x1 + (wrap64 ((wrap64 (x8)) + 20))), 0)) else (none)) else (none))) else (some (0, 0, ([] : List Int), 0, 31)))) else (none)) else (none)))
end
def frame_Read.f (k : Nat) (l0 : List Int) (a1 : Int) : Option (Int × Int × List Int × Int × Int) := if a1 < 0 then (frame_Read.j0 k l0 a1 true) else (frame_Read.j0 k l0 a1 (decide (a1 > (l0.length : Int))))
theorem frame_Read.mono_l : ∀ k, (∀ y0 y1 y2, LeO (frame_Read.j0 k y0 y1 y2) (frame_Read.j0 (k + 1) y0 y1 y2)) ∧ (∀ y0 y1 y2 y3, LeO (frame_Read.j1 k y0 y1 y2 y3) (frame_Read.j1 (k + 1) y0 y1 y2 y3))
  | 0 => ⟨fun _ _ _ r h => by simp [frame_Read.j0] at h, fun _ _ _ _ r h => by simp [frame_Read.j1] at h⟩
  | k + 1 => by
    obtain ⟨ih0, ih1⟩ := frame_Read.mono_l k
    refine ⟨?_, ?_⟩
    · intro y0 y1 y2
      unfold frame_Read.j0
      repeat' first
      | (with_reducible exact ih0 _ _ _)
      | (with_reducible exact ih1 _ _ _ _)
      | (with_reducible exact crc_Open.mono _ _)
      | (with_reducible exact octets_Get.mono _ _ _ _)
      | (with_reducible exact LeO.refl _)
      | (with_reducible exact LeO.none _)
      | (with_reducible refine LeO.ite ?_ ?_)
      | (with_reducible refine LeO.bind ?_ (fun _ => ?_))
      | exact ih0 _ _ _
      | exact ih1 _ _ _ _
      | exact crc_Open.mono _ _
      | exact octets_Get.mono _ _ _ _
      | exact LeO.none _
      | refine LeO.ite ?_ ?_
      | refine LeO.bind ?_ (fun _ => ?_)
    · intro y0 y1 y2 y3
      unfold frame_Read.j1
      repeat' first
      | (with_reducible exact ih0 _ _ _)
      | (with_reducible exact ih1 _ _ _ _)
      | (with_reducible exact crc_Open.mono _ _)
      | (with_reducible exact octets_Get.mono _ _ _ _)
      | (with_reducible exact LeO.refl _)
      | (with_reducible exact LeO.none _)
      | (with_reducible refine LeO.ite ?_ ?_)
      | (with_reducible refine LeO.bind ?_ (fun _ => ?_))
      | exact ih0 _ _ _
      | exact ih1 _ _ _ _
      | exact crc_Open.mono _ _
      | exact octets_Get.mono _ _ _ _
      | exact LeO.none _
      | refine LeO.ite ?_ ?_
      | refine LeO.bind ?_ (fun _ => ?_)
theorem frame_Read.mono : ∀ a0 a1 k, LeO (frame_Read.f k a0 a1) (frame_Read.f (k + 1) a0 a1) := by
  intro a0 a1 k
  obtain ⟨ih0, ih1⟩ := frame_Read.mono_l k
  unfold frame_Read.f
  repeat' first
      | (with_reducible exact ih0 _ _ _)
      | (with_reducible exact ih1 _ _ _ _)
      | (with_reducible exact crc_Open.mono _ _)
      | (with_reducible exact octets_Get.mono _ _ _ _)
      | (with_reducible exact LeO.refl _)
      | (with_reducible exact LeO.none _)
      | (with_reducible refine LeO.ite ?_ ?_)
      | (with_reducible refine LeO.bind ?_ (fun _ => ?_))
      | exact ih0 _ _ _
      | exact ih1 _ _ _ _
      | exact crc_Open.mono _ _
      | exact octets_Get.mono _ _ _ _
      | exact LeO.none _
      | refine LeO.ite ?_ ?_
      | refine LeO.bind ?_ (fun _ => ?_)
def frame_Read.T16 : Bool × List (List Nat × List Nat) := (true, [([], []), ([0], [0]), ([1], [1]), ([], []), ([], []), ([4], [4]), ([2, 3, 5], [2, 3, 5]), ([], []), ([], []), ([7, 8], [7, 8]), ([6, 0, 1, 2, 3, 4, 5, 6], [6]), ([9, 10, 0, 1, 2, 3, 4, 5, 6, 7, 8, 9, 10], [9]), ([11, 0, 1, 2, 3, 4, 5, 6, 7, 8, 9, 10, 11], [])])
def frame_Read.B16 : List Nat := [0, 1, 3, 0, 0, 16, 63, 0, 0, 384, 127, 2047, 4095]
theorem frame_Read.tab16 : rtab .any (opsOf Try.f11 16) = frame_Read.T16 := by kernel_rfl
theorem frame_Read.bits16 : waitsOk frame_Read.T16.2 frame_Read.B16 = true := by kernel_rfl
set_option maxHeartbeats 8000000 in
set_option maxRecDepth 100000 in
theorem frame_Read.calls (k : Nat) (A0 : Option Addr) (c0 : Nat) (l0 : List Int) (a1 : Int) (r1 : Int) (r2 : Int) (r3 : List Int) (r4 : Int) (r5 : Int) (w : World) (hr0 : Kd.C (Kd.int .u8) w A0 l0.length l0) (hc0 : l0.length ≤ c0) (h : frame_Read.f k l0 a1 = some (r1, r2, r3, r4, r5)) :
    Calls Try.prog 11 #[.slice A0 l0.length c0, .int .i64 a1] w fun e w' => ∃ v2_ : Value, e = .returned (.tuple #[.agg #[.int .u8 r1, .int .u64 r2, v2_], .int .i64 r4, .int .i64 r5]) ∧ Kd.Q (Kd.int .u8) 5 w' w.heap.size (fun _ => True) v2_ r3 ∧ Below w.heap.size w w' := by
  have hu26 := Try.underlying26
  have HR0 := Aside0.mk hr0
  have HC0 := Aside0.mk hc0
  clear hr0 hc0
  have HB := Aside0.mk (Below.refl w.heap.size w)
  have H : (if a1 < 0 then (frame_Read.j0 k l0 a1 true) else (frame_Read.j0 k l0 a1 (decide (a1 > (l0.length : Int))))) = some (r1, r2, r3, r4, r5) := h
  clear h
  have HC3 := Aside0.mk H
  clear H
  go_enter Try.func11, Try.ntmps11
  go_upto_region 1 with (first | ((with_reducible refine gate_dst (N := 4) rfl ?_); (try (refine gate_guard (by rfl) ?_; dsimp only)); refine box_event ?hg (N := 4) ?hd (cs := #[.int .u8 0, .int .u64 0, .slice none 0 0]) (t := 26) ?hr ?_; (case hd => rfl); (case hg => rfl); (case hr => first | (go_simp; done) | (go_simp; rfl)); intro gb152 hg w4 hbox hb; have BK152 := Aside0.mk (hbox); have GW152 := Aside0.mk ((by rw [hg]; exact (below_size (upB0 HB.out)) : w.heap.size ≤ gb152)); have GE152 := Aside0.mk ((by rw [hg]; exact (below_size (upB0 HB.out)) : w.heap.size ≤ gb152)); replace HB := Aside0.mk (below_step (upB0 HB.out) hb); clear hb hbox hg))
  (try simp only [Act.put, List.setIfInBounds_toArray, List.set_cons_zero, List.set_cons_succ])
  go_cut [24] (fun v24 wc => ∃ (kq : Nat) (x24_2 : Bool), v24 = .bool x24_2 ∧ Aside0 (frame_Read.j0 kq l0 a1 x24_2 = some (r1, r2, r3, r4, r5)) ∧ Aside0 (kq ≤ k) ∧ Aside0 (wc.heap[gb152]? = some (.cells #[.int .u8 0, .int .u64 0, (.slice none 0 0)] 26 (0, 0))) ∧ Aside0 (Below w.heap.size w wc))
  case first =>
    have H := HC3.out
    clear HC3
    by_cases c5 : a1 < 0
    · rw [if_pos c5] at H
      have c5b0 : decide (a1 < 0) = true := decide_eq_true c5
      clear c5
      (first | rw [c5b0] | (simp only [i64_w, i32_w]; rw [c5b0]) | skip)
      have H' := Aside0.mk H
      clear H
      go_wp2
      go_meet
      case rel => exact ⟨_, (true), (by first | rfl | (simp; done) | (simp [*]; done)), H', ⟨by first | omega | exact Nat.le_refl _⟩, ⟨by refine upK ?_; exact BK152.out⟩, ⟨upB1 HB.out GE152.out⟩⟩
    · rw [if_neg c5] at H
      have c5b0 : decide (a1 < 0) = false := decide_eq_false c5
      clear c5
      (first | rw [c5b0] | (simp only [i64_w, i32_w]; rw [c5b0]) | skip)
      have H' := Aside0.mk H
      clear H
      go_wp2
      go_meet
      case rel => exact ⟨_, (decide (a1 > (l0.length : Int))), (by first | rfl | (simp; done) | (simp [*]; done)), H', ⟨by first | omega | exact Nat.le_refl _⟩, ⟨by refine upK ?_; exact BK152.out⟩, ⟨upB1 HB.out GE152.out⟩⟩
  case rest =>
    clear HC3
    try clear c1
    try clear p2
    try clear c5
    try clear c5b0
    obtain ⟨kq, x24_2, rfl, HA, HJ2, BK152, HB⟩ := hcut
    cases kq with
    | zero => exact absurd HA.out (by simp [frame_Read.j0])
    | succ kj2 =>
      have H := HA.out
      clear HA
      simp only [frame_Read.j0] at H
      by_cases c6 : x24_2 = true
      · subst c6
        have H1 : (some (0, 0, ([] : List Int), 0, 5)) = some (r1, r2, r3, r4, r5) := by rw [if_pos rfl] at H; exact H
        clear H
        have H := H1
        clear H1
        simp only [Option.some.injEq, Prod.mk.injEq] at H
        obtain ⟨rfl, rfl, rfl, rfl, rfl⟩ := H
        obtain ⟨hcz7_0, hcz7_1, hcz7_2, hfz7_0, hfz7_1, hfz7_2⟩ := cells3 BK152.out
        go_wp2
        refine bodyPost_ret (results_ctt rfl _ _ gb152 26 #[.int .u8 0, .int .u64 0, .slice none 0 0] (0, 0) _ rfl (by refine upK ?_; refine blk_put (cs := #[.int .u8 0, .int .u64 0, .slice none 0 0]) ?_ 2 _ rfl; refine upK ?_; refine blk_put (cs := #[.int .u8 0, .int .u64 0, .slice none 0 0]) ?_ 1 _ rfl; refine upK ?_; refine blk_put (cs := #[.int .u8 0, .int .u64 0, .slice none 0 0]) ?_ 0 _ rfl; refine upK ?_; exact BK152.out) Try.underlying26 rfl (by kernel_rfl)) rfl ?_
        exact ⟨_, by first | rfl | (simp [errW_none, errW_some] <;> rfl) | (simp [*, errW_none, errW_some] <;> rfl), Kd.Q_of_R (by first | exact Kd.R_nil _ _ _ _ _ | exact Kd.N_nil _ _ _ _ _ | exact Kd.V_nil _ _ _ _ _ | exact Kd.Q_nil _ _ _ _ _ | exact Kd.S_nil _ _ _ _ _), upB1 HB.out GE152.out⟩
      · replace c6 := Bool.eq_false_iff.mpr c6
        subst c6
        have H1 : (if 0 ≤ a1 then (if a1 ≤ (l0.length : Int) then ((some (l0.drop (a1 : Int).toNat : List Int)).bind fun y153 => (if (y153.length : Int) < 16 then (some (0, 0, ([] : List Int), 0, 10)) else ((octets_Get.f kj2 y153 12 4).bind fun bt157 => (if 0 < (y153.length : Int) then (if (rd y153 0) = 80 then (if 1 < (y153.length : Int) then (if (rd y153 1) = 76 then (if 3 < (y153.length : Int) then (if (rd y153 3) = 0 then (frame_Read.j1 kj2 a1 y153 bt157.1 (decide (bt157.1 > 16777216))) else (frame_Read.j1 kj2 a1 y153 bt157.1 true)) else (none)) else (frame_Read.j1 kj2 a1 y153 bt157.1 true)) else (none)) else (frame_Read.j1 kj2 a1 y153 bt157.1 true)) else (none))))) else (none)) else (none)) = some (r1, r2, r3, r4, r5) := by rw [if_neg (show ¬ (false = true) by decide)] at H; exact H
        clear H
        have H := H1
        clear H1
        by_cases c8 : 0 ≤ a1
        · rw [if_pos c8] at H
          have c8b0 := eq_true c8
          have c8b1 : decide (0 ≤ a1) = true := decide_eq_true c8
          clear c8
          by_cases c9 : a1 ≤ (l0.length : Int)
          · rw [if_pos c9] at H
            have c9b0 := eq_true c9
            have c9b1 : decide (a1 ≤ (l0.length : Int)) = true := decide_eq_true c9
            clear c9
            obtain ⟨y153, hy153⟩ : ∃ y_ : List Int, y_ = (l0.drop (a1 : Int).toNat) := ⟨_, rfl⟩
            replace H : (if (y153.length : Int) < 16 then (some (0, 0, ([] : List Int), 0, 10)) else ((octets_Get.f kj2 y153 12 4).bind fun bt157 => (if 0 < (y153.length : Int) then (if (rd y153 0) = 80 then (if 1 < (y153.length : Int) then (if (rd y153 1) = 76 then (if 3 < (y153.length : Int) then (if (rd y153 3) = 0 then (frame_Read.j1 kj2 a1 y153 bt157.1 (decide (bt157.1 > 16777216))) else (frame_Read.j1 kj2 a1 y153 bt157.1 true)) else (none)) else (frame_Read.j1 kj2 a1 y153 bt157.1 true)) else (none)) else (frame_Read.j1 kj2 a1 y153 bt157.1 true)) else (none)))) = some (r1, r2, r3, r4, r5) := by first | (rw [hy153]; with_reducible exact H) | (have H2_ := (Option.bind_some _ _).symm.trans H; rw [hy153]; with_reducible exact H2_) | (have H2_ := (Option.bind_some _ _).symm.trans H; with_reducible exact H2_) | with_reducible exact H | (rw [hy153]; exact H) | exact H
            have Ny153 := Aside0.mk hy153
            clear hy153
            by_cases c10 : (y153.length : Int) < 16
            · rw [if_pos c10] at H
              have c10b0 : decide ((y153.length : Int) < 16) = true := decide_eq_true c10
              have c10b1 : decide (y153.length < 16) = true := decide_eq_true (by omega)
              clear c10
              simp only [Option.some.injEq, Prod.mk.injEq] at H
              obtain ⟨rfl, rfl, rfl, rfl, rfl⟩ := H
              have q11 : (a1 : Int) ≤ ((l0.length : Int) : Int) := of_decide_eq_true (by first | (with_reducible assumption) | assumption)
              obtain ⟨i011, hi011, _, hsz11, _⟩ := info_parts info5
              have hroom11 : l0.length ≤ c0 := HC0.out
              have hC11 : Kd.C (Kd.int .u8) _ A0 l0.length l0 := HR0.out
              have q011 : (0 : Int) ≤ (a1 : Int) := of_decide_eq_true (by first | (with_reducible assumption) | assumption)
              have hcut11 := cut_from (P := Try.prog) 22 5 .i64 Try.underlying22 hi011 1 hsz11 A0 l0.length c0 a1 q011 q11
              have hr11 := Kd.C_drop (m := (a1 : Int).toNat) (c := c0) hC11 (by omega) hroom11
              obtain ⟨A11, hA11⟩ : ∃ A1, A1 = (if c0 = (a1 : Int).toNat then A0 else (A0 : Option Addr).map (·.add ((a1 : Int).toNat * 1))) := ⟨_, rfl⟩
              obtain ⟨c11, hc11⟩ : ∃ c1, c1 = c0 - (a1 : Int).toNat := ⟨_, rfl⟩
              have hy11 : y153.length = l0.length - (a1 : Int).toNat := (by rw [Ny153.out, List.length_drop] <;> omega)
              rw [show (l0).drop (a1 : Int).toNat = y153 from Ny153.out.symm] at hr11
              replace hr11 : Kd.C (Kd.int .u8) _ A11 y153.length y153 := (by rw [hA11]; exact hr11)
              rw [← hy11, ← hA11, ← hc11] at hcut11
              have HR156 := Aside0.mk hr11
              have HC156 := Aside0.mk (show y153.length ≤ c11 from by rw [hy11, hc11]; exact Nat.sub_le_sub_right hroom11 _)
              clear hr11 hC11 hroom11 hi011 hsz11 hc11
              have KY11 := Aside0.mk hy11
              have KA11 := Aside0.mk hA11
              clear hy11 hA11
              replace q11 := eq_true q11
              obtain ⟨hcz12_0, hcz12_1, hcz12_2, hfz12_0, hfz12_1, hfz12_2⟩ := cells3 BK152.out
              go_wp2
              refine bodyPost_ret (results_ctt rfl _ _ gb152 26 #[.int .u8 0, .int .u64 0, .slice none 0 0] (0, 0) _ rfl (by refine upK ?_; refine blk_put (cs := #[.int .u8 0, .int .u64 0, .slice none 0 0]) ?_ 2 _ rfl; refine upK ?_; refine blk_put (cs := #[.int .u8 0, .int .u64 0, .slice none 0 0]) ?_ 1 _ rfl; refine upK ?_; refine blk_put (cs := #[.int .u8 0, .int .u64 0, .slice none 0 0]) ?_ 0 _ rfl; refine upK ?_; exact BK152.out) Try.underlying26 rfl (by kernel_rfl)) rfl ?_
              exact ⟨_, by first | rfl | (simp [errW_none, errW_some] <;> rfl) | (simp [*, errW_none, errW_some] <;> rfl), Kd.Q_of_R (by first | exact Kd.R_nil _ _ _ _ _ | exact Kd.N_nil _ _ _ _ _ | exact Kd.V_nil _ _ _ _ _ | exact Kd.Q_nil _ _ _ _ _ | exact Kd.S_nil _ _ _ _ _), upB1 HB.out GE152.out⟩
            · rw [if_neg c10] at H
              have c10b0 : decide ((y153.length : Int) < 16) = false := decide_eq_false c10
              have c10b1 : decide (y153.length < 16) = false := decide_eq_false (by omega)
              clear c10
              replace H := Option.bind_eq_some_iff.mp H
              obtain ⟨⟨t157, t158, t159⟩, A130, H⟩ := H
              replace H : (if 0 < (y153.length : Int) then (if (rd y153 0) = 80 then (if 1 < (y153.length : Int) then (if (rd y153 1) = 76 then (if 3 < (y153.length : Int) then (if (rd y153 3) = 0 then (frame_Read.j1 kj2 a1 y153 t157 (decide (t157 > 16777216))) else (frame_Read.j1 kj2 a1 y153 t157 true)) else (none)) else (frame_Read.j1 kj2 a1 y153 t157 true)) else (none)) else (frame_Read.j1 kj2 a1 y153 t157 true)) else (none)) = some (r1, r2, r3, r4, r5) := H
              have A13 := Aside0.mk A130
              clear A130
              have HC14 := Aside0.mk H
              clear H
              have q15 : (a1 : Int) ≤ ((l0.length : Int) : Int) := of_decide_eq_true (by first | (with_reducible assumption) | assumption)
              obtain ⟨i015, hi015, _, hsz15, _⟩ := info_parts info5
              have hroom15 : l0.length ≤ c0 := HC0.out
              have hC15 : Kd.C (Kd.int .u8) _ A0 l0.length l0 := HR0.out
              have q015 : (0 : Int) ≤ (a1 : Int) := of_decide_eq_true (by first | (with_reducible assumption) | assumption)
              have hcut15 := cut_from (P := Try.prog) 22 5 .i64 Try.underlying22 hi015 1 hsz15 A0 l0.length c0 a1 q015 q15
              have hr15 := Kd.C_drop (m := (a1 : Int).toNat) (c := c0) hC15 (by omega) hroom15
              obtain ⟨A15, hA15⟩ : ∃ A1, A1 = (if c0 = (a1 : Int).toNat then A0 else (A0 : Option Addr).map (·.add ((a1 : Int).toNat * 1))) := ⟨_, rfl⟩
              obtain ⟨c15, hc15⟩ : ∃ c1, c1 = c0 - (a1 : Int).toNat := ⟨_, rfl⟩
              have hy15 : y153.length = l0.length - (a1 : Int).toNat := (by rw [Ny153.out, List.length_drop] <;> omega)
              rw [show (l0).drop (a1 : Int).toNat = y153 from Ny153.out.symm] at hr15
              replace hr15 : Kd.C (Kd.int .u8) _ A15 y153.length y153 := (by rw [hA15]; exact hr15)
              rw [← hy15, ← hA15, ← hc15] at hcut15
              have HR156 := Aside0.mk hr15
              have HC156 := Aside0.mk (show y153.length ≤ c15 from by rw [hy15, hc15]; exact Nat.sub_le_sub_right hroom15 _)
              clear hr15 hC15 hroom15 hi015 hsz15 hc15
              have KY15 := Aside0.mk hy15
              have KA15 := Aside0.mk hA15
              clear hy15 hA15
              replace q15 := eq_true q15
              go_upto_region 7 with (first | ((with_reducible refine gate_callee (f := 24) rfl ?_); refine goesL_ (some 35) rfl rfl Try.func24 (by kernel_rfl) rfl #[.slice A15 y153.length c15, .int .i64 12, .int .i64 4] rfl argA ?_; (with_reducible refine (octets_Get.calls kj2 _ _ y153 12 4 t157 t158 t159 _ ?side1 ?side2 A13.out).mono ?_); (case side1 => exact upC ((Kd.C_below HR156.out HB.out))); (case side2 => exact HC156.out); rintro e w' ⟨rfl, ⟨nd, rfl⟩⟩; refine ⟨_, rfl, ?_⟩))
              (try simp only [Act.put, List.setIfInBounds_toArray, List.set_cons_zero, List.set_cons_succ])
              go_cut [58] (fun v58 wc => ∃ (kq : Nat) (x58_13 : Bool), v58 = .bool x58_13 ∧ Aside0 (frame_Read.j1 kq a1 y153 t157 x58_13 = some (r1, r2, r3, r4, r5)) ∧ Aside0 (kq ≤ kj2) ∧ Aside0 (wc.heap[gb152]? = some (.cells #[.int .u8 0, .int .u64 0, (.slice none 0 0)] 26 (0, 0))) ∧ Aside0 (Below w.heap.size w wc))
              case first =>
                have H := HC14.out
                clear HC14
                by_cases c16 : 0 < (y153.length : Int)
                · rw [if_pos c16] at H
                  have c16b0 : decide (0 < (y153.length : Int)) = true := decide_eq_true c16
                  have c16b1 : decide (0 < y153.length) = true := decide_eq_true (by omega)
                  clear c16
                  (first | rw [c16b0] | (simp only [i64_w, i32_w]; rw [c16b0]) | skip)
                  by_cases c17 : (rd y153 0) = 80
                  · rw [if_pos c17] at H
                    have c17b0 : ((rd y153 0) == 80) = true := beq_iff_eq.mpr c17
                    have c17b1 : ((rd y153 0) != 80) = false := bne_eq_false_iff_eq.mpr c17
                    clear c17
                    by_cases c18 : 1 < (y153.length : Int)
                    · rw [if_pos c18] at H
                      have c18b0 : decide (1 < (y153.length : Int)) = true := decide_eq_true c18
                      have c18b1 : decide (1 < y153.length) = true := decide_eq_true (by omega)
                      clear c18
                      by_cases c19 : (rd y153 1) = 76
                      · rw [if_pos c19] at H
                        have c19b0 : ((rd y153 1) == 76) = true := beq_iff_eq.mpr c19
                        have c19b1 : ((rd y153 1) != 76) = false := bne_eq_false_iff_eq.mpr c19
                        clear c19
                        by_cases c20 : 3 < (y153.length : Int)
                        · rw [if_pos c20] at H
                          have c20b0 : decide (3 < (y153.length : Int)) = true := decide_eq_true c20
                          have c20b1 : decide (3 < y153.length) = true := decide_eq_true (by omega)
                          clear c20
                          by_cases c21 : (rd y153 3) = 0
                          · rw [if_pos c21] at H
                            have c21b0 : ((rd y153 3) == 0) = true := beq_iff_eq.mpr c21
                            have c21b1 : ((rd y153 3) != 0) = false := bne_eq_false_iff_eq.mpr c21
                            clear c21
                            have H' := Aside0.mk H
                            clear H
                            have p160 : 0 ≤ (0 : Int) := (by omega)
                            have q160 : 0 < (y153.length : Int) := of_decide_eq_true (by first | (with_reducible assumption) | assumption)
                            obtain ⟨ad160, e160, hx160_0⟩ := Kd.at_int HR156.out 0 p160 q160
                            cases e160
                            have qi160 : (0 < y153.length) = True := eq_true (by omega)
                            (try rw [show ((0 : Int)).toNat = 0 from rfl] at hx160_0)
                            (try rw [Addr.add_zero'] at hx160_0)
                            replace hx160_0 := (HB.out.cell (World.block_lt_of_cell? w _ hx160_0)).trans hx160_0
                            replace p160 := eq_true p160
                            replace q160 := eq_true q160
                            have p161 : 0 ≤ (1 : Int) := (by omega)
                            have q161 : 1 < (y153.length : Int) := of_decide_eq_true (by first | (with_reducible assumption) | assumption)
                            obtain ⟨ad161, e161, hx161_0⟩ := Kd.at_int HR156.out 1 p161 q161
                            obtain rfl : ad160 = ad161 := (by injection e161)
                            (try simp only [show (1 : Int).toNat = 1 from rfl, Nat.reduceMul, Nat.reduceEqDiff, Go.Addr.add, ↓reduceIte] at hx161_0)
                            have qi161 : (1 < y153.length) = True := eq_true (by omega)
                            (try rw [show ((1 : Int)).toNat = 1 from rfl] at hx161_0)
                            replace hx161_0 := (HB.out.cell (World.block_lt_of_cell? w _ hx161_0)).trans hx161_0
                            replace p161 := eq_true p161
                            replace q161 := eq_true q161
                            have p162 : 0 ≤ (3 : Int) := (by omega)
                            have q162 : 3 < (y153.length : Int) := of_decide_eq_true (by first | (with_reducible assumption) | assumption)
                            obtain ⟨ad162, e162, hx162_0⟩ := Kd.at_int HR156.out 3 p162 q162
                            obtain rfl : ad160 = ad162 := (by injection e162)
                            (try simp only [show (3 : Int).toNat = 3 from rfl, Nat.reduceMul, Nat.reduceEqDiff, Go.Addr.add, ↓reduceIte] at hx162_0)
                            have qi162 : (3 < y153.length) = True := eq_true (by omega)
                            (try rw [show ((3 : Int)).toNat = 3 from rfl] at hx162_0)
                            replace hx162_0 := (HB.out.cell (World.block_lt_of_cell? w _ hx162_0)).trans hx162_0
                            replace p162 := eq_true p162
                            replace q162 := eq_true q162
                            go_wp2
                            go_meet
                            case rel => exact ⟨_, (decide (t157 > 16777216)), (by first | rfl | (simp; done) | (simp [*]; done)), H', ⟨by have := HJ2.out; first | omega | exact Nat.le_refl _⟩, ⟨by refine upK ?_; exact BK152.out⟩, ⟨upB1 HB.out GE152.out⟩⟩
                          · rw [if_neg c21] at H
                            have c21b0 : ((rd y153 3) == 0) = false := beq_eq_false_iff_ne.mpr c21
                            have c21b1 : ((rd y153 3) != 0) = true := bne_iff_ne.mpr c21
                            have H' := Aside0.mk H
                            clear H
                            have p160 : 0 ≤ (0 : Int) := (by omega)
                            have q160 : 0 < (y153.length : Int) := of_decide_eq_true (by first | (with_reducible assumption) | assumption)
                            obtain ⟨ad160, e160, hx160_0⟩ := Kd.at_int HR156.out 0 p160 q160
                            cases e160
                            have qi160 : (0 < y153.length) = True := eq_true (by omega)
                            (try rw [show ((0 : Int)).toNat = 0 from rfl] at hx160_0)
                            (try rw [Addr.add_zero'] at hx160_0)
                            replace hx160_0 := (HB.out.cell (World.block_lt_of_cell? w _ hx160_0)).trans hx160_0
                            replace p160 := eq_true p160
                            replace q160 := eq_true q160
                            have p161 : 0 ≤ (1 : Int) := (by omega)
                            have q161 : 1 < (y153.length : Int) := of_decide_eq_true (by first | (with_reducible assumption) | assumption)
                            obtain ⟨ad161, e161, hx161_0⟩ := Kd.at_int HR156.out 1 p161 q161
                            obtain rfl : ad160 = ad161 := (by injection e161)
                            (try simp only [show (1 : Int).toNat = 1 from rfl, Nat.reduceMul, Nat.reduceEqDiff, Go.Addr.add, ↓reduceIte] at hx161_0)
                            have qi161 : (1 < y153.length) = True := eq_true (by omega)
                            (try rw [show ((1 : Int)).toNat = 1 from rfl] at hx161_0)
                            replace hx161_0 := (HB.out.cell (World.block_lt_of_cell? w _ hx161_0)).trans hx161_0
                            replace p161 := eq_true p161
                            replace q161 := eq_true q161
                            have p162 : 0 ≤ (3 : Int) := (by omega)
                            have q162 : 3 < (y153.length : Int) := of_decide_eq_true (by first | (with_reducible assumption) | assumption)
                            obtain ⟨ad162, e162, hx162_0⟩ := Kd.at_int HR156.out 3 p162 q162
                            obtain rfl : ad160 = ad162 := (by injection e162)
                            (try simp only [show (3 : Int).toNat = 3 from rfl, Nat.reduceMul, Nat.reduceEqDiff, Go.Addr.add, ↓reduceIte] at hx162_0)
                            have qi162 : (3 < y153.length) = True := eq_true (by omega)
                            (try rw [show ((3 : Int)).toNat = 3 from rfl] at hx162_0)
                            replace hx162_0 := (HB.out.cell (World.block_lt_of_cell? w _ hx162_0)).trans hx162_0
                            replace p162 := eq_true p162
                            replace q162 := eq_true q162
                            go_wp2
                            go_meet
                            case rel => exact ⟨_, (true), (by first | rfl | (simp; done) | (simp [*]; done)), H', ⟨by have := HJ2.out; first | omega | exact Nat.le_refl _⟩, ⟨by refine upK ?_; exact BK152.out⟩, ⟨upB1 HB.out GE152.out⟩⟩
                        · rw [if_neg c20] at H
                          exact absurd H (by simp)
                      · rw [if_neg c19] at H
                        have c19b0 : ((rd y153 1) == 76) = false := beq_eq_false_iff_ne.mpr c19
                        have c19b1 : ((rd y153 1) != 76) = true := bne_iff_ne.mpr c19
                        have H' := Aside0.mk H
                        clear H
                        have p160 : 0 ≤ (0 : Int) := (by omega)
                        have q160 : 0 < (y153.length : Int) := of_decide_eq_true (by first | (with_reducible assumption) | assumption)
                        obtain ⟨ad160, e160, hx160_0⟩ := Kd.at_int HR156.out 0 p160 q160
                        cases e160
                        have qi160 : (0 < y153.length) = True := eq_true (by omega)
                        (try rw [show ((0 : Int)).toNat = 0 from rfl] at hx160_0)
                        (try rw [Addr.add_zero'] at hx160_0)
                        replace hx160_0 := (HB.out.cell (World.block_lt_of_cell? w _ hx160_0)).trans hx160_0
                        replace p160 := eq_true p160
                        replace q160 := eq_true q160
                        have p161 : 0 ≤ (1 : Int) := (by omega)
                        have q161 : 1 < (y153.length : Int) := of_decide_eq_true (by first | (with_reducible assumption) | assumption)
                        obtain ⟨ad161, e161, hx161_0⟩ := Kd.at_int HR156.out 1 p161 q161
                        obtain rfl : ad160 = ad161 := (by injection e161)
                        (try simp only [show (1 : Int).toNat = 1 from rfl, Nat.reduceMul, Nat.reduceEqDiff, Go.Addr.add, ↓reduceIte] at hx161_0)
                        have qi161 : (1 < y153.length) = True := eq_true (by omega)
                        (try rw [show ((1 : Int)).toNat = 1 from rfl] at hx161_0)
                        replace hx161_0 := (HB.out.cell (World.block_lt_of_cell? w _ hx161_0)).trans hx161_0
                        replace p161 := eq_true p161
                        replace q161 := eq_true q161
                        go_wp2
                        go_meet
                        case rel => exact ⟨_, (true), (by first | rfl | (simp; done) | (simp [*]; done)), H', ⟨by have := HJ2.out; first | omega | exact Nat.le_refl _⟩, ⟨by refine upK ?_; exact BK152.out⟩, ⟨upB1 HB.out GE152.out⟩⟩
                    · rw [if_neg c18] at H
                      exact absurd H (by simp)
                  · rw [if_neg c17] at H
                    have c17b0 : ((rd y153 0) == 80) = false := beq_eq_false_iff_ne.mpr c17
                    have c17b1 : ((rd y153 0) != 80) = true := bne_iff_ne.mpr c17
                    have H' := Aside0.mk H
                    clear H
                    have p160 : 0 ≤ (0 : Int) := (by omega)
                    have q160 : 0 < (y153.length : Int) := of_decide_eq_true (by first | (with_reducible assumption) | assumption)
                    obtain ⟨ad160, e160, hx160_0⟩ := Kd.at_int HR156.out 0 p160 q160
                    cases e160
                    have qi160 : (0 < y153.length) = True := eq_true (by omega)
                    (try rw [show ((0 : Int)).toNat = 0 from rfl] at hx160_0)
                    (try rw [Addr.add_zero'] at hx160_0)
                    replace hx160_0 := (HB.out.cell (World.block_lt_of_cell? w _ hx160_0)).trans hx160_0
                    replace p160 := eq_true p160
                    replace q160 := eq_true q160
                    go_wp2
                    go_meet
                    case rel => exact ⟨_, (true), (by first | rfl | (simp; done) | (simp [*]; done)), H', ⟨by have := HJ2.out; first | omega | exact Nat.le_refl _⟩, ⟨by refine upK ?_; exact BK152.out⟩, ⟨upB1 HB.out GE152.out⟩⟩
                · rw [if_neg c16] at H
                  exact absurd H (by simp)
              case rest =>
                clear HC14
                try clear c1
                try clear p1
                try clear q1
                try clear hx1
                try clear qi1
                try clear c2
                try clear p2
                try clear c5
                try clear c5b0
                try clear c6
                try clear c8
                try clear c8b0
                try clear c8b1
                try clear c9
                try clear c9b0
                try clear c9b1
                try clear c10
                try clear c10b0
                try clear c10b1
                try clear c11
                try clear q11
                try clear c15
                try clear q15
                try clear c16
                try clear c16b0
                try clear c16b1
                try clear p16
                try clear q16
                try clear hx16
                try clear qi16
                try clear c17
                try clear c17b0
                try clear c17b1
                try clear c18
                try clear c18b0
                try clear c18b1
                try clear c19
                try clear c19b0
                try clear c19b1
                try clear c20
                try clear c20b0
                try clear c20b1
                try clear c21
                try clear c21b0
                try clear c21b1
                try clear hcz12_0
                try clear hcz12_1
                try clear hcz12_2
                try clear hcz7_0
                try clear hcz7_1
                try clear hcz7_2
                try clear hfz12_0
                try clear hfz12_1
                try clear hfz12_2
                try clear hfz7_0
                try clear hfz7_1
                try clear hfz7_2
                try clear hx160_0
                try clear hx161_0
                try clear hx162_0
                try clear p160
                try clear p161
                try clear p162
                try clear p2
                try clear q011
                try clear q015
                try clear q11
                try clear q15
                try clear q160
                try clear q161
                try clear q162
                obtain ⟨kq, x58_13, rfl, HA, HJ13, BK152, HB⟩ := hcut
                cases kq with
                | zero => exact absurd HA.out (by simp [frame_Read.j1])
                | succ kj13 =>
                  have H := HA.out
                  clear HA
                  simp only [frame_Read.j1] at H
                  by_cases c22 : x58_13 = true
                  · subst c22
                    have H1 : (some (0, 0, ([] : List Int), 0, 30)) = some (r1, r2, r3, r4, r5) := by rw [if_pos rfl] at H; exact H
                    clear H
                    have H := H1
                    clear H1
                    simp only [Option.some.injEq, Prod.mk.injEq] at H
                    obtain ⟨rfl, rfl, rfl, rfl, rfl⟩ := H
                    obtain ⟨hcz23_0, hcz23_1, hcz23_2, hfz23_0, hfz23_1, hfz23_2⟩ := cells3 BK152.out
                    go_wp2
                    refine bodyPost_ret (results_ctt rfl _ _ gb152 26 #[.int .u8 0, .int .u64 0, .slice none 0 0] (0, 0) _ rfl (by refine upK ?_; refine blk_put (cs := #[.int .u8 0, .int .u64 0, .slice none 0 0]) ?_ 2 _ rfl; refine upK ?_; refine blk_put (cs := #[.int .u8 0, .int .u64 0, .slice none 0 0]) ?_ 1 _ rfl; refine upK ?_; refine blk_put (cs := #[.int .u8 0, .int .u64 0, .slice none 0 0]) ?_ 0 _ rfl; refine upK ?_; exact BK152.out) Try.underlying26 rfl (by kernel_rfl)) rfl ?_
                    exact ⟨_, by first | rfl | (simp [errW_none, errW_some] <;> rfl) | (simp [*, errW_none, errW_some] <;> rfl), Kd.Q_of_R (by first | exact Kd.R_nil _ _ _ _ _ | exact Kd.N_nil _ _ _ _ _ | exact Kd.V_nil _ _ _ _ _ | exact Kd.Q_nil _ _ _ _ _ | exact Kd.S_nil _ _ _ _ _), upB1 HB.out GE152.out⟩
                  · replace c22 := Bool.eq_false_iff.mpr c22
                    subst c22
                    have H1 : (if (y153.length : Int) < (wrap64 ((wrap64 (t157)) + 20)) then (some (0, 0, ([] : List Int), 0, 10)) else (if 0 ≤ (wrap64 ((wrap64 (t157)) + 20)) then (if (wrap64 ((wrap64 (t157)) + 20)) ≤ (y153.length : Int) then ((crc_Open.f kj13 (y153.take ((wrap64 ((wrap64 (t157)) + 20)) : Int).toNat)).bind fun bt167 => (if bt167.2 = 0 then ((octets_Get.f kj13 bt167.1 4 8).bind fun bt171 => (if 2 < (bt167.1.length : Int) then (if 16 ≤ (bt167.1.length : Int) then (some (rd bt167.1 2, bt171.1, (bt167.1.drop (16 : Int).toNat), wrap64 (a1 + (wrap64 ((wrap64 (t157)) + 20))), 0)) else (none)) else (none))) else (some (0, 0, ([] : List Int), 0, 31)))) else (none)) else (none))) = some (r1, r2, r3, r4, r5) := by rw [if_neg (show ¬ (false = true) by decide)] at H; exact H
                    clear H
                    have H := H1
                    clear H1
                    by_cases c24 : (y153.length : Int) < (wrap64 ((wrap64 (t157)) + 20))
                    · rw [if_pos c24] at H
                      have c24b0 : decide ((y153.length : Int) < (wrap64 ((wrap64 (t157)) + 20))) = true := decide_eq_true c24
                      clear c24
                      simp only [Option.some.injEq, Prod.mk.injEq] at H
                      obtain ⟨rfl, rfl, rfl, rfl, rfl⟩ := H
                      obtain ⟨hcz25_0, hcz25_1, hcz25_2, hfz25_0, hfz25_1, hfz25_2⟩ := cells3 BK152.out
                      go_wp2
                      refine bodyPost_ret (results_ctt rfl _ _ gb152 26 #[.int .u8 0, .int .u64 0, .slice none 0 0] (0, 0) _ rfl (by refine upK ?_; refine blk_put (cs := #[.int .u8 0, .int .u64 0, .slice none 0 0]) ?_ 2 _ rfl; refine upK ?_; refine blk_put (cs := #[.int .u8 0, .int .u64 0, .slice none 0 0]) ?_ 1 _ rfl; refine upK ?_; refine blk_put (cs := #[.int .u8 0, .int .u64 0, .slice none 0 0]) ?_ 0 _ rfl; refine upK ?_; exact BK152.out) Try.underlying26 rfl (by kernel_rfl)) rfl ?_
                      exact ⟨_, by first | rfl | (simp [errW_none, errW_some] <;> rfl) | (simp [*, errW_none, errW_some] <;> rfl), Kd.Q_of_R (by first | exact Kd.R_nil _ _ _ _ _ | exact Kd.N_nil _ _ _ _ _ | exact Kd.V_nil _ _ _ _ _ | exact Kd.Q_nil _ _ _ _ _ | exact Kd.S_nil _ _ _ _ _), upB1 HB.out GE152.out⟩
                    · rw [if_neg c24] at H
                      have c24b0 : decide ((y153.length : Int) < (wrap64 ((wrap64 (t157)) + 20))) = false := decide_eq_false c24
                      clear c24
                      obtain ⟨ji26, hji26⟩ : ∃ j_ : Int, (wrap64 ((wrap64 (t157)) + 20)) = j_ := ⟨_, rfl⟩
                      replace H : (if 0 ≤ (ji26) then (if (ji26) ≤ (y153.length : Int) then ((crc_Open.f kj13 (y153.take ((ji26) : Int).toNat)).bind fun bt167 => (if bt167.2 = 0 then ((octets_Get.f kj13 bt167.1 4 8).bind fun bt171 => (if 2 < (bt167.1.length : Int) then (if 16 ≤ (bt167.1.length : Int) then (some (rd bt167.1 2, bt171.1, (bt167.1.drop (16 : Int).toNat), wrap64 (a1 + (ji26)), 0)) else (none)) else (none))) else (some (0, 0, ([] : List Int), 0, 31)))) else (none)) else (none)) = some (r1, r2, r3, r4, r5) := by first | (rw [hji26] at H; exact H) | (simp only [hji26] at H ⊢; exact H)
                      (try rw [hji26] at c24b0)
                      have hji26w : (IntKind.i64.wrap ((wrap64 (t157)) + 20)) = ji26 := (i64_w _).trans hji26
                      by_cases c27 : 0 ≤ (ji26)
                      · rw [if_pos c27] at H
                        have c27b0 := eq_true c27
                        have c27b1 : decide (0 ≤ (ji26)) = true := decide_eq_true c27
                        clear c27
                        by_cases c28 : (ji26) ≤ (y153.length : Int)
                        · rw [if_pos c28] at H
                          have c28b0 := eq_true c28
                          have c28b1 : decide ((ji26) ≤ (y153.length : Int)) = true := decide_eq_true c28
                          clear c28
                          obtain ⟨y163, hy163⟩ : ∃ y_ : List Int, y_ = (y153.take ((ji26) : Int).toNat) := ⟨_, rfl⟩
                          replace H : ((crc_Open.f kj13 y163).bind fun bt167 => (if bt167.2 = 0 then ((octets_Get.f kj13 bt167.1 4 8).bind fun bt171 => (if 2 < (bt167.1.length : Int) then (if 16 ≤ (bt167.1.length : Int) then (some (rd bt167.1 2, bt171.1, (bt167.1.drop (16 : Int).toNat), wrap64 (a1 + (ji26)), 0)) else (none)) else (none))) else (some (0, 0, ([] : List Int), 0, 31)))) = some (r1, r2, r3, r4, r5) := by first | (rw [hy163]; with_reducible exact H) | (have H2_ := (Option.bind_some _ _).symm.trans H; rw [hy163]; with_reducible exact H2_) | (have H2_ := (Option.bind_some _ _).symm.trans H; with_reducible exact H2_) | with_reducible exact H | (rw [hy163]; exact H) | exact H
                          have Ny163 := Aside0.mk hy163
                          clear hy163
                          replace H := Option.bind_eq_some_iff.mp H
                          obtain ⟨⟨t167, t168⟩, A290, H⟩ := H
                          replace H : (if t168 = 0 then ((octets_Get.f kj13 t167 4 8).bind fun bt171 => (if 2 < (t167.length : Int) then (if 16 ≤ (t167.length : Int) then (some (rd t167 2, bt171.1, (t167.drop (16 : Int).toNat), wrap64 (a1 + (ji26)), 0)) else (none)) else (none))) else (some (0, 0, ([] : List Int), 0, 31))) = some (r1, r2, r3, r4, r5) := H
                          have A29 := Aside0.mk A290
                          clear A290
                          by_cases c30 : t168 = 0
                          · rw [if_pos c30] at H
                            have c30b0 : (t168 == 0) = true := beq_iff_eq.mpr c30
                            have c30b1 : (t168 != 0) = false := bne_eq_false_iff_eq.mpr c30
                            clear c30
                            replace H := Option.bind_eq_some_iff.mp H
                            obtain ⟨⟨t171, t172, t173⟩, A310, H⟩ := H
                            replace H : (if 2 < (t167.length : Int) then (if 16 ≤ (t167.length : Int) then (some (rd t167 2, t171, (t167.drop (16 : Int).toNat), wrap64 (a1 + (ji26)), 0)) else (none)) else (none)) = some (r1, r2, r3, r4, r5) := H
                            have A31 := Aside0.mk A310
                            clear A310
                            by_cases c32 : 2 < (t167.length : Int)
                            · rw [if_pos c32] at H
                              have c32b0 : decide (2 < (t167.length : Int)) = true := decide_eq_true c32
                              have c32b1 : decide (2 < t167.length) = true := decide_eq_true (by omega)
                              clear c32
                              by_cases c33 : 16 ≤ (t167.length : Int)
                              · rw [if_pos c33] at H
                                have c33b0 := eq_true c33
                                have c33b1 : decide (16 ≤ (t167.length : Int)) = true := decide_eq_true c33
                                clear c33
                                obtain ⟨y175, hy175⟩ : ∃ y_ : List Int, y_ = (t167.drop (16 : Int).toNat) := ⟨_, rfl⟩
                                replace H : (some (rd t167 2, t171, y175, wrap64 (a1 + (ji26)), 0)) = some (r1, r2, r3, r4, r5) := by first | (rw [hy175]; with_reducible exact H) | (have H2_ := (Option.bind_some _ _).symm.trans H; rw [hy175]; with_reducible exact H2_) | (have H2_ := (Option.bind_some _ _).symm.trans H; with_reducible exact H2_) | with_reducible exact H | (rw [hy175]; exact H) | exact H
                                have Ny175 := Aside0.mk hy175
                                clear hy175
                                simp only [Option.some.injEq, Prod.mk.injEq] at H
                                obtain ⟨rfl, rfl, rfl, rfl, rfl⟩ := H
                                have q34 : ((ji26) : Int) ≤ ((y153.length : Int) : Int) := of_decide_eq_true (by first | (with_reducible assumption) | assumption)
                                obtain ⟨i034, hi034, _, hsz34, _⟩ := info_parts info5
                                have hroom34 : y153.length ≤ c15 := HC156.out
                                have hC34 : Kd.C (Kd.int .u8) _ A15 y153.length y153 := HR156.out
                                have hcut34 := cut_to (P := Try.prog) 22 5 .i64 Try.underlying22 hi034 A15 y153.length c15 (ji26) (of_decide_eq_true (by first | (with_reducible assumption) | assumption)) q34 hroom34
                                have hr34 := Kd.C_take (m := ((ji26) : Int).toNat) hC34 (by omega)
                                have hy34 : y163.length = ((ji26) : Int).toNat := (by rw [Ny163.out, List.length_take]; omega)
                                rw [← Ny163.out] at hr34
                                rw [← hy34] at hcut34
                                have HR166 := Aside0.mk hr34
                                have HC166 := Aside0.mk (show y163.length ≤ c15 from by omega)
                                clear hr34 hC34 hroom34 hi034 hsz34
                                have KY34 := Aside0.mk hy34
                                clear hy34
                                replace q34 := eq_true q34
                                try go_wp2_with (first | ((with_reducible refine gate_callee (f := 25) rfl ?_); refine goesL_ (some 72) rfl rfl Try.func25 (by kernel_rfl) rfl #[.slice A15 y163.length c15] rfl argA ?_; (with_reducible refine (crc_Open.calls kj13 _ _ y163 t167 t168 _ ?side1 ?side2 A29.out).mono ?_); (case side1 => exact upC ((Kd.C_below HR166.out HB.out))); (case side2 => exact HC166.out); rintro e w35 ⟨v169, rfl, ho0, hb⟩; refine ⟨_, rfl, ?_⟩; have HO170 := Aside0.mk (Kd.R_lower ho0 (below_size (upB1 HB.out GE152.out))); replace BK152 := Aside0.mk (blk_below (upK BK152.out) hb); replace HB := Aside0.mk (below_step (upB1 HB.out GE152.out) hb); (try clear hb); (try clear hb2); (try clear hk); (try clear hi); (try clear ho0); obtain ⟨Ao36, co36, eo36⟩ := Kd.R_slice HO170.out; subst eo36) | ((with_reducible refine gate_callee (f := 24) rfl ?_); refine goesL_ (some 80) rfl rfl Try.func24 (by kernel_rfl) rfl #[.slice Ao36 t167.length co36, .int .i64 4, .int .i64 8] rfl argA ?_; (with_reducible refine (octets_Get.calls kj13 _ _ t167 4 8 t171 t172 t173 _ ?side1 ?side2 A31.out).mono ?_); (case side1 => exact upC ((Kd.R_reads' HO170.out).2.2)); (case side2 => exact (Kd.R_reads' HO170.out).2.1); rintro e w' ⟨rfl, ⟨nd, rfl⟩⟩; refine ⟨_, rfl, ?_⟩; (try (rw [drewN_self w35]; generalize hq_ : World.drewN w35 _ = w35; have n0_ : Aside0 (Kd.R (Kd.int .u8) 5 w35 w.heap.size (fun _ => True) (.slice Ao36 t167.length co36) t167) := ⟨by rw [← hq_]; exact (upR HO170.out)⟩; have n1_ : Aside0 (w35.heap[gb152]? = some (.cells #[.int .u8 0, .int .u64 0, .slice none 0 0] 26 (0, 0))) := ⟨by rw [← hq_]; exact (upK BK152.out)⟩; have n2_ : Aside0 (Below w.heap.size w w35) := ⟨by rw [← hq_]; exact (upB1 HB.out GE152.out)⟩; clear HO170 BK152 HB hq_; have HO170 := n0_; have BK152 := n1_; have HB := n2_; clear n0_ n1_ n2_))))
                                replace HO170 := Aside0.mk (Kd.R_drew HO170.out)
                                replace BK152 := Aside0.mk (blk_drew BK152.out)
                                replace HB := Aside0.mk (below_drew1 HB.out)
                                have p174 : 0 ≤ (2 : Int) := (by omega)
                                have q174 : 2 < (t167.length : Int) := of_decide_eq_true (by first | (with_reducible assumption) | assumption)
                                obtain ⟨ad174, e174, hx174_0⟩ := Kd.at_int (Kd.R_reads' HO170.out).2.2 2 p174 q174
                                cases e174
                                (try simp only [show (2 : Int).toNat = 2 from rfl, Nat.reduceMul, Nat.reduceEqDiff, Go.Addr.add, ↓reduceIte] at hx174_0)
                                have qi174 : (2 < t167.length) = True := eq_true (by omega)
                                (try rw [show ((2 : Int)).toNat = 2 from rfl] at hx174_0)
                                replace p174 := eq_true p174
                                replace q174 := eq_true q174
                                have q38 : (16 : Int) ≤ ((t167.length : Int) : Int) := of_decide_eq_true (by first | (with_reducible assumption) | assumption)
                                obtain ⟨i038, hi038, _, hsz38, _⟩ := info_parts info5
                                have hcut38 := cut_from (P := Try.prog) 22 5 .i64 Try.underlying22 hi038 1 hsz38 (some ad174) t167.length co36 16 (by omega) q38
                                have hr38 := Kd.Q_drop (k := (16 : Int).toNat) (Kd.Q_of_R HO170.out) (by omega)
                                obtain ⟨A38, hA38⟩ : ∃ A1, A1 = (if co36 = (16 : Int).toNat then (some ad174) else ((some ad174) : Option Addr).map (·.add ((16 : Int).toNat * 1))) := ⟨_, rfl⟩
                                obtain ⟨c38, hc38⟩ : ∃ c1, c1 = co36 - (16 : Int).toNat := ⟨_, rfl⟩
                                have hy38 : y175.length = t167.length - (16 : Int).toNat := (by rw [Ny175.out, List.length_drop])
                                rw [← Ny175.out] at hr38
                                rw [← hy38, ← hA38, ← hc38] at hcut38
                                replace hr38 : Kd.Q (Kd.int .u8) 5 w35.drew w.heap.size (fun _ => True) (.slice A38 y175.length c38) y175 := (by rw [hA38, hc38, hy38]; exact hr38)
                                have HE38 : Aside0 ((Value.slice A38 y175.length c38).ownBlock = (.slice (some ad174) t167.length co36 : Value).ownBlock) := ⟨by rw [hA38]; split <;> (cases ((some ad174) : Option Addr) <;> rfl)⟩
                                clear hy38 hi038 hsz38 HO170 hA38 hc38
                                have HO177 := Aside0.mk hr38
                                clear hr38
                                replace q38 := eq_true q38
                                refine start_ (n := 13) (S := fun w' => w'.cell? ⟨ad174.block, ad174.off + 2, none⟩ = some (.int .u8 (rd t167 2))) (ds := []) #[false, false, false, false, false, false, false, false, false, false, false, false, false] (by kernel_rfl) rfl rfl (hx174_0) (fun hHeld => ?_); refine with_tabW frame_Read.tab16 frame_Read.bits16 (fun HT_ HW_ => ?_)
                                generalize w35.drew = w37 at BK152 HB HO177 hx174_0 hHeld ⊢
                                refine pure_ (i := 0) (N := some 84) (v := ?_) (a' := ?_) #[true, false, false, false, false, false, false, false, false, false, false, false, false] rfl rfl (any_of HT_.out (by kernel_rfl)) (fun _ _ _ h => h) (Or.inl ⟨by rfl, ?_⟩) ?_ ?_
                                rotate_left
                                · intro w'
                                  go_simp
                                  with_reducible rfl
                                rotate_left
                                · simp only [Act.put, List.setIfInBounds_toArray, List.set_cons_zero, List.set_cons_succ, i64_w, i32_w]
                                  rfl
                                refine pure_ (i := 1) (N := some 85) (v := ?_) (a' := ?_) #[true, true, false, false, false, false, false, false, false, false, false, false, false] rfl rfl (any_of HT_.out (by kernel_rfl)) (fun _ _ _ h => h) (Or.inl ⟨by rfl, ?_⟩) ?_ ?_
                                rotate_left
                                · intro w'
                                  go_simp
                                  with_reducible rfl
                                rotate_left
                                · simp only [Act.put, List.setIfInBounds_toArray, List.set_cons_zero, List.set_cons_succ, i64_w, i32_w]
                                  rfl
                                refine pure_ (i := 3) (N := some 87) (v := ?_) (a' := ?_) #[true, true, false, true, false, false, false, false, false, false, false, false, false] rfl rfl (any_of HT_.out (by kernel_rfl)) (fun _ _ _ h => h) (Or.inl ⟨by rfl, ?_⟩) ?_ ?_
                                rotate_left
                                · intro w'
                                  go_simp
                                  with_reducible rfl
                                rotate_left
                                · simp only [Act.put, List.setIfInBounds_toArray, List.set_cons_zero, List.set_cons_succ, i64_w, i32_w]
                                  rfl
                                refine pure_ (i := 4) (N := some 88) (v := ?_) (a' := ?_) #[true, true, false, true, true, false, false, false, false, false, false, false, false] rfl rfl (any_of HT_.out (by kernel_rfl)) (fun _ _ _ h => h) (Or.inl ⟨by rfl, ?_⟩) ?_ ?_
                                rotate_left
                                · intro w'
                                  go_simp
                                  with_reducible rfl
                                rotate_left
                                · simp only [Act.put, List.setIfInBounds_toArray, List.set_cons_zero, List.set_cons_succ, i64_w, i32_w]
                                  rfl
                                refine pure_ (i := 5) (N := some 89) (v := ?_) (a' := ?_) #[true, true, false, true, true, true, false, false, false, false, false, false, false] rfl rfl (any_of HT_.out (by kernel_rfl)) (fun _ _ _ h => h) (Or.inl ⟨by rfl, ?_⟩) ?_ ?_
                                rotate_left
                                · intro w'
                                  go_simp
                                  with_reducible rfl
                                rotate_left
                                · simp only [Act.put, List.setIfInBounds_toArray, List.set_cons_zero, List.set_cons_succ, i64_w, i32_w]
                                  rfl
                                refine pure_ (i := 7) (N := some 91) (v := ?_) (a' := ?_) #[true, true, false, true, true, true, false, true, false, false, false, false, false] rfl rfl (any_of HT_.out (by kernel_rfl)) (fun _ _ _ h => h) (Or.inl ⟨by rfl, ?_⟩) ?_ ?_
                                rotate_left
                                · intro w'
                                  go_simp
                                  with_reducible rfl
                                rotate_left
                                · simp only [Act.put, List.setIfInBounds_toArray, List.set_cons_zero, List.set_cons_succ, i64_w, i32_w]
                                  rfl
                                refine pure_ (i := 8) (N := some 92) (v := ?_) (a' := ?_) #[true, true, false, true, true, true, false, true, true, false, false, false, false] rfl rfl (any_of HT_.out (by kernel_rfl)) (fun _ _ _ h => h) (Or.inl ⟨by rfl, ?_⟩) ?_ ?_
                                rotate_left
                                · intro w'
                                  go_simp
                                  with_reducible rfl
                                rotate_left
                                · simp only [Act.put, List.setIfInBounds_toArray, List.set_cons_zero, List.set_cons_succ, i64_w, i32_w]
                                  rfl
                                refine pure_ (i := 9) (N := some 93) (v := ?_) (a' := ?_) #[true, true, false, true, true, true, false, true, true, true, false, false, false] rfl rfl (any_of HT_.out (by kernel_rfl)) (fun _ _ _ h => h) (Or.inl ⟨by rfl, ?_⟩) ?_ ?_
                                rotate_left
                                · intro w'
                                  go_simp
                                  with_reducible rfl
                                rotate_left
                                · simp only [Act.put, List.setIfInBounds_toArray, List.set_cons_zero, List.set_cons_succ, i64_w, i32_w]
                                  rfl
                                refine take_ (i := 2) (N := some 86) (v := ?_) (a' := ?_) #[true, true, true, true, true, true, false, true, true, true, false, false, false] rfl rfl (take_ofW HT_.out HW_.out (by kernel_rfl)) (fun _ _ _ h => h) (Or.inl ⟨by rfl, ?_⟩) hHeld ?_ ?_
                                rotate_left
                                · intro w' s0
                                  go_simp
                                  with_reducible rfl
                                rotate_left
                                · simp only [Act.put, List.setIfInBounds_toArray, List.set_cons_zero, List.set_cons_succ, i64_w, i32_w]
                                  rfl
                                refine pure_ (i := 6) (N := some 90) (v := ?_) (a' := ?_) #[true, true, true, true, true, true, true, true, true, true, false, false, false] rfl rfl (any_of HT_.out (by kernel_rfl)) (fun _ _ _ h => h) (Or.inl ⟨by rfl, ?_⟩) ?_ ?_
                                rotate_left
                                · intro w'
                                  go_simp
                                  with_reducible rfl
                                rotate_left
                                · simp only [Act.put, List.setIfInBounds_toArray, List.set_cons_zero, List.set_cons_succ, i64_w, i32_w]
                                  rfl
                                refine one_ (i := 10) (N := none) #[true, true, true, true, true, true, true, true, true, true, true, false, false] rfl rfl (one_of HT_.out (by kernel_rfl)) (by decide) (fun K hK => ?_)
                                have hs39 : w37.cell? ⟨gb152, 0, none⟩ = some (.int .u8 0) := (blk_cell BK152.out 0).trans rfl
                                have hfs39 := blk_frozen BK152.out 0
                                have hs40 : w37.cell? ⟨gb152, 1, none⟩ = some (.int .u64 0) := (blk_cell BK152.out 1).trans rfl
                                have hfs40 := blk_frozen BK152.out 1
                                have hs41 : w37.cell? ⟨gb152, 2, none⟩ = some (.slice none 0 0) := (blk_cell BK152.out 2).trans rfl
                                have hfs41 := blk_frozen BK152.out 2
                                refine skip_ (w1 := ?_) (by rfl) rfl ?_ ?_
                                rotate_left
                                · go_simp
                                  rfl
                                refine hK.out _ _ (((cell_far (p := ⟨gb152, _, none⟩) (by first | exact Kd.own_blk ((fun he_ => Kd.Q_ne HO177.out BK152.out (by decide) (Eq.trans he_ HE38.out.symm))) | (rw [add_block]; exact Kd.own_blk ((fun he_ => Kd.Q_ne HO177.out BK152.out (by decide) (Eq.trans he_ HE38.out.symm)))) | (show (Addr.add _ _).block ≠ _; rw [add_block]; exact Kd.own_blk ((fun he_ => Kd.Q_ne HO177.out BK152.out (by decide) (Eq.trans he_ HE38.out.symm)))) | (dsimp only; exact Kd.own_blk ((fun he_ => Kd.Q_ne HO177.out BK152.out (by decide) (Eq.trans he_ HE38.out.symm))))) _).trans (((cell_far (p := ⟨gb152, _, none⟩) (by first | exact Kd.own_blk ((fun he_ => Kd.Q_ne HO177.out BK152.out (by decide) (Eq.trans he_ HE38.out.symm))) | (rw [add_block]; exact Kd.own_blk ((fun he_ => Kd.Q_ne HO177.out BK152.out (by decide) (Eq.trans he_ HE38.out.symm)))) | (show (Addr.add _ _).block ≠ _; rw [add_block]; exact Kd.own_blk ((fun he_ => Kd.Q_ne HO177.out BK152.out (by decide) (Eq.trans he_ HE38.out.symm)))) | (dsimp only; exact Kd.own_blk ((fun he_ => Kd.Q_ne HO177.out BK152.out (by decide) (Eq.trans he_ HE38.out.symm))))) _).trans (((cell_far (p := ⟨gb152, _, none⟩) (by first | exact Kd.own_blk ((fun he_ => Kd.Q_ne HO177.out BK152.out (by decide) (Eq.trans he_ HE38.out.symm))) | (rw [add_block]; exact Kd.own_blk ((fun he_ => Kd.Q_ne HO177.out BK152.out (by decide) (Eq.trans he_ HE38.out.symm)))) | (show (Addr.add _ _).block ≠ _; rw [add_block]; exact Kd.own_blk ((fun he_ => Kd.Q_ne HO177.out BK152.out (by decide) (Eq.trans he_ HE38.out.symm)))) | (dsimp only; exact Kd.own_blk ((fun he_ => Kd.Q_ne HO177.out BK152.out (by decide) (Eq.trans he_ HE38.out.symm))))) _).trans (hHeld))))))) (fun hHeld => ?_)
                                clear hK K
                                refine pure_ (i := 11) (N := some 5) (v := ?_) (a' := ?_) #[true, true, true, true, true, true, true, true, true, true, true, true, false] rfl rfl (any_of HT_.out (by kernel_rfl)) (fun _ _ _ h => h) (Or.inl ⟨by rfl, ?_⟩) ?_ ?_
                                rotate_left
                                · intro w'
                                  go_simp
                                  with_reducible rfl
                                rotate_left
                                · simp only [Act.put, List.setIfInBounds_toArray, List.set_cons_zero, List.set_cons_succ, i64_w, i32_w]
                                  rfl
                                refine pure_ (i := 12) (N := some 6) (v := ?_) (a' := ?_) #[true, true, true, true, true, true, true, true, true, true, true, true, true] rfl rfl (any_of HT_.out (by kernel_rfl)) (fun _ _ _ h => h) (Or.inl ⟨by rfl, ?_⟩) ?_ ?_
                                rotate_left
                                · intro w'
                                  go_simp
                                  with_reducible rfl
                                rotate_left
                                · simp only [Act.put, List.setIfInBounds_toArray, List.set_cons_zero, List.set_cons_succ, i64_w, i32_w]
                                  rfl
                                refine done_ (done_of HT_.out (by kernel_rfl)) ?_
                                try go_wp2
                                refine bodyPost_ret (results_ctt rfl _ _ gb152 26 #[.int .u8 (rd t167 2), .int .u64 t171, .slice A38 y175.length c38] (0, 0) _ rfl (by refine upK ?_; refine blk_put (cs := #[.int .u8 (rd t167 2), .int .u64 t171, .slice none 0 0]) ?_ 2 _ rfl; refine upK ?_; refine blk_put (cs := #[.int .u8 (rd t167 2), .int .u64 0, .slice none 0 0]) ?_ 1 _ rfl; refine upK ?_; refine blk_put (cs := #[.int .u8 0, .int .u64 0, .slice none 0 0]) ?_ 0 _ rfl; refine upK ?_; exact BK152.out) Try.underlying26 rfl (by kernel_rfl)) rfl ?_
                                exact ⟨_, by first | rfl | (simp [errW_none, errW_some] <;> rfl) | (simp only [← hji26]; first | rfl | (simp [errW_none, errW_some] <;> rfl)) | (simp [*, errW_none, errW_some] <;> rfl), by (with_reducible repeat (first | apply Kd.Q_alloc | apply Kd.Q_drewN | apply Kd.Q_drew)); exact Kd.Q_mono (Kd.Q_far (p := ⟨gb152, 2, none⟩) (Kd.Q_far (p := ⟨gb152, 1, none⟩) (Kd.Q_far (p := ⟨gb152, 0, none⟩) (Kd.Q_types HO177.out BK152.out (by decide)) (fun _ hk => hk.2) (.int .u8 (rd t167 2))) (fun _ hk => hk.2) (.int .u64 t171)) (fun _ hk => hk.2) (.slice A38 y175.length c38)) (fun _ hk => trivial), upB1 HB.out GE152.out⟩
                              · rw [if_neg c33] at H
                                exact absurd H (by simp)
                            · rw [if_neg c32] at H
                              exact absurd H (by simp)
                          · rw [if_neg c30] at H
                            have c30b0 : (t168 == 0) = false := beq_eq_false_iff_ne.mpr c30
                            have c30b1 : (t168 != 0) = true := bne_iff_ne.mpr c30
                            simp only [Option.some.injEq, Prod.mk.injEq] at H
                            obtain ⟨rfl, rfl, rfl, rfl, rfl⟩ := H
                            have q42 : ((ji26) : Int) ≤ ((y153.length : Int) : Int) := of_decide_eq_true (by first | (with_reducible assumption) | assumption)
                            obtain ⟨i042, hi042, _, hsz42, _⟩ := info_parts info5
                            have hroom42 : y153.length ≤ c15 := HC156.out
                            have hC42 : Kd.C (Kd.int .u8) _ A15 y153.length y153 := HR156.out
                            have hcut42 := cut_to (P := Try.prog) 22 5 .i64 Try.underlying22 hi042 A15 y153.length c15 (ji26) (of_decide_eq_true (by first | (with_reducible assumption) | assumption)) q42 hroom42
                            have hr42 := Kd.C_take (m := ((ji26) : Int).toNat) hC42 (by omega)
                            have hy42 : y163.length = ((ji26) : Int).toNat := (by rw [Ny163.out, List.length_take]; omega)
                            rw [← Ny163.out] at hr42
                            rw [← hy42] at hcut42
                            have HR166 := Aside0.mk hr42
                            have HC166 := Aside0.mk (show y163.length ≤ c15 from by omega)
                            clear hr42 hC42 hroom42 hi042 hsz42
                            have KY42 := Aside0.mk hy42
                            clear hy42
                            replace q42 := eq_true q42
                            go_wp2_with (first | ((with_reducible refine gate_callee (f := 25) rfl ?_); refine goesL_ (some 72) rfl rfl Try.func25 (by kernel_rfl) rfl #[.slice A15 y163.length c15] rfl argA ?_; (with_reducible refine (crc_Open.calls kj13 _ _ y163 t167 t168 _ ?side1 ?side2 A29.out).mono ?_); (case side1 => exact upC ((Kd.C_below HR166.out HB.out))); (case side2 => exact HC166.out); rintro e w43 ⟨v169, rfl, ho0, hb⟩; refine ⟨_, rfl, ?_⟩; have HO170 := Aside0.mk (Kd.R_lower ho0 (below_size (upB1 HB.out GE152.out))); replace BK152 := Aside0.mk (blk_below (upK BK152.out) hb); replace HB := Aside0.mk (below_step (upB1 HB.out GE152.out) hb); (try clear hb); (try clear hb2); (try clear hk); (try clear hi); (try clear ho0); obtain ⟨hcz44_0, hcz44_1, hcz44_2, hfz44_0, hfz44_1, hfz44_2⟩ := cells3 BK152.out))
                            refine bodyPost_ret (results_ctt rfl _ _ gb152 26 #[.int .u8 0, .int .u64 0, .slice none 0 0] (0, 0) _ rfl (by refine upK ?_; refine blk_put (cs := #[.int .u8 0, .int .u64 0, .slice none 0 0]) ?_ 2 _ rfl; refine upK ?_; refine blk_put (cs := #[.int .u8 0, .int .u64 0, .slice none 0 0]) ?_ 1 _ rfl; refine upK ?_; refine blk_put (cs := #[.int .u8 0, .int .u64 0, .slice none 0 0]) ?_ 0 _ rfl; refine upK ?_; exact BK152.out) Try.underlying26 rfl (by kernel_rfl)) rfl ?_
                            exact ⟨_, by first | rfl | (simp [errW_none, errW_some] <;> rfl) | (simp only [← hji26]; first | rfl | (simp [errW_none, errW_some] <;> rfl)) | (simp [*, errW_none, errW_some] <;> rfl), Kd.Q_of_R (by first | exact Kd.R_nil _ _ _ _ _ | exact Kd.N_nil _ _ _ _ _ | exact Kd.V_nil _ _ _ _ _ | exact Kd.Q_nil _ _ _ _ _ | exact Kd.S_nil _ _ _ _ _), upB1 HB.out GE152.out⟩
                        · rw [if_neg c28] at H
                          exact absurd H (by simp)
                      · rw [if_neg c27] at H
                        exact absurd H (by simp)
          · rw [if_neg c9] at H
            exact absurd H (by simp)
        · rw [if_neg c8] at H
          exact absurd H (by simp)

end Go.Proofs.Ytcajcbeioilgmaa.F
