-- Written by ext (this session's own program).
import Derived.Test.YtbpffhdecbgmpaaFx0
namespace Go.Proofs.Ytbpffhdecbgmpaa.F
open Go.RowKit Go.Proofs.YtbpffhdecbgmpaaW.PrintWords Go.Proofs.YtbpffhdecbgmpaaW.PrintLast Go.Proofs.YtbpffhdecbgmpaaW.PrintMore
attribute [local go_sem] max2_int min2_int max_two min_two max_three min_three max_four min_four   -- for this text's walks alone
set_option linter.unusedVariables false
set_option linter.unusedSimpArgs false

/-! ### plinthlaw02_cut: function 8 -/
def plinthlaw02_cut.f (l0 : List Int) : Option (List Int) := if (l0.length : Int) > 16384 then (if 16384 ≤ (l0.length : Int) then (some (l0.take 16384)) else (none)) else (some l0)
set_option maxHeartbeats 8000000 in
set_option maxRecDepth 100000 in
theorem plinthlaw02_cut.calls (P0_ : Nat → Prop) (A0 : Option Addr) (c0 : Nat) (l0 : List Int) (r : List Int) (w : World) (hs0 : Kd.V (Kd.int .u8) 5 w w.heap.size (fun k_ => P0_ k_) (.slice A0 l0.length c0) l0) (h : plinthlaw02_cut.f l0 = some r) :
    Calls Try.prog 8 #[.slice A0 l0.length c0] w fun e w' => ∃ v0_ : Value, e = .returned (v0_) ∧ Kd.V (Kd.int .u8) 5 w' w.heap.size (fun k_ => (P0_ k_ ∨ w.heap.size ≤ k_)) v0_ r ∧ Below w.heap.size w w' := by
  have HO0 := Aside0.mk (show Kd.V (Kd.int .u8) 5 w w.heap.size (fun k_ => (P0_ k_ ∨ w.heap.size ≤ k_)) (.slice A0 l0.length c0) l0 from Kd.V_mono hs0 (fun k_ hk => .inl hk))
  have HB := Aside0.mk (Below.refl w.heap.size w)
  have H : (if (l0.length : Int) > 16384 then (if 16384 ≤ (l0.length : Int) then (some (l0.take 16384)) else (none)) else (some l0)) = some r := h
  clear h
  by_cases c2 : (l0.length : Int) > 16384
  · rw [if_pos c2] at H
    have c2b0 : decide (16384 < (l0.length : Int)) = true := decide_eq_true c2
    have c2b1 : decide (16384 < l0.length) = true := decide_eq_true (by omega)
    clear c2
    by_cases c3 : 16384 ≤ (l0.length : Int)
    · rw [if_pos c3] at H
      have c3b0 := eq_true c3
      have c3b1 : decide (16384 ≤ (l0.length : Int)) = true := decide_eq_true c3
      clear c3
      obtain ⟨y101, hy101⟩ : ∃ y_ : List Int, y_ = (l0.take 16384) := ⟨_, rfl⟩
      replace H : (some y101) = some r := by first | (rw [hy101]; with_reducible exact H) | (have H2_ := (Option.bind_some _ _).symm.trans H; rw [hy101]; with_reducible exact H2_) | (have H2_ := (Option.bind_some _ _).symm.trans H; with_reducible exact H2_) | with_reducible exact H | (rw [hy101]; exact H) | exact H
      have Ny101 := Aside0.mk hy101
      clear hy101
      obtain rfl := Option.some.inj H
      have q4 : (16384 : Int) ≤ ((l0.length : Int) : Int) := of_decide_eq_true (by first | (with_reducible assumption) | assumption)
      obtain ⟨i04, hi04, _, hsz4, _⟩ := info_parts info5
      have hroom4 : l0.length ≤ c0 := (Kd.V_reads' HO0.out).2.1
      have hC4 : Kd.F (Kd.int .u8) _ _ A0 l0.length l0 := (Kd.V_at (base := w.heap.size) HO0.out).2.2
      have hcut4 := cut_to (P := Try.prog) 22 5 .i64 Try.underlying22 hi04 A0 l0.length c0 16384 (by omega) q4 hroom4
      have hr4 := Kd.F_take (m := 16384) hC4 (by omega)
      have hy4 : y101.length = (16384 : Int).toNat := (by rw [Ny101.out, List.length_take]; omega)
      rw [← Ny101.out] at hr4
      rw [← hy4] at hcut4
      have HO105 := Aside0.mk (show Kd.V (Kd.int .u8) 5 _ w.heap.size _ (.slice A0 y101.length c0) y101 from Kd.V_mk (by omega) hr4)
      have HC105 := Aside0.mk (show y101.length ≤ c0 from by omega)
      clear hr4 hC4 hroom4 hi04 hsz4
      have KY4 := Aside0.mk hy4
      clear hy4
      replace q4 := eq_true q4
      go_enter Try.func8, Try.ntmps8
      go_wp2
      go_ret
      exact ⟨_, by first | rfl | (simp [errW_none, errW_some] <;> rfl) | (simp [*, errW_none, errW_some] <;> rfl), by refine upV ?_; exact HO105.out, upB0 HB.out⟩
    · rw [if_neg c3] at H
      exact absurd H (by simp)
  · rw [if_neg c2] at H
    have c2b0 : decide (16384 < (l0.length : Int)) = false := decide_eq_false c2
    have c2b1 : decide (16384 < l0.length) = false := decide_eq_false (by omega)
    clear c2
    obtain rfl := Option.some.inj H
    go_enter Try.func8, Try.ntmps8
    go_wp2
    go_ret
    exact ⟨_, by first | rfl | (simp [errW_none, errW_some] <;> rfl) | (simp [*, errW_none, errW_some] <;> rfl), by refine upV ?_; exact HO0.out, upB0 HB.out⟩

/-! ### crc_nibble: function 20 -/
def crc_nibble.tab : List Int := [0, 274646895, 549293790, 820201905, 1098587580, 1361435347, 1640403810, 1905808397, 2197175160, 2460548119, 2722870694, 2987750089, 3280807620, 3553878443, 3811616794, 4084100981]
def crc_nibble.f (a0 : Int) : Option Int := if 0 ≤ a0 then if a0 < 16 then some (crc_nibble.tab.getD a0.toNat 0) else none else none
set_option maxHeartbeats 4000000 in
theorem crc_nibble.c0 (w : World) : Calls Try.prog 20 #[.int .u32 0] w fun e w' => e = .returned (.int .u32 0) ∧ Drawn0 w w' := by
  have i0 : ∀ w, (Instr.index 47 (.agg #[.int .u32 0, .int .u32 274646895, .int .u32 549293790, .int .u32 820201905, .int .u32 1098587580, .int .u32 1361435347, .int .u32 1640403810, .int .u32 1905808397, .int .u32 2197175160, .int .u32 2460548119, .int .u32 2722870694, .int .u32 2987750089, .int .u32 3280807620, .int .u32 3553878443, .int .u32 3811616794, .int .u32 4084100981]) (.int .u32 0)).run Try.prog w = .ok (.int .u32 0) w := fun _ => by kernel_rfl
  go_enter Try.func20, Try.ntmps20
  go_wp2
  go_ret
  exact ⟨rfl, Drawn0.refl _⟩
set_option maxHeartbeats 4000000 in
theorem crc_nibble.c1 (w : World) : Calls Try.prog 20 #[.int .u32 1] w fun e w' => e = .returned (.int .u32 274646895) ∧ Drawn0 w w' := by
  have i0 : ∀ w, (Instr.index 47 (.agg #[.int .u32 0, .int .u32 274646895, .int .u32 549293790, .int .u32 820201905, .int .u32 1098587580, .int .u32 1361435347, .int .u32 1640403810, .int .u32 1905808397, .int .u32 2197175160, .int .u32 2460548119, .int .u32 2722870694, .int .u32 2987750089, .int .u32 3280807620, .int .u32 3553878443, .int .u32 3811616794, .int .u32 4084100981]) (.int .u32 1)).run Try.prog w = .ok (.int .u32 274646895) w := fun _ => by kernel_rfl
  go_enter Try.func20, Try.ntmps20
  go_wp2
  go_ret
  exact ⟨rfl, Drawn0.refl _⟩
set_option maxHeartbeats 4000000 in
theorem crc_nibble.c2 (w : World) : Calls Try.prog 20 #[.int .u32 2] w fun e w' => e = .returned (.int .u32 549293790) ∧ Drawn0 w w' := by
  have i0 : ∀ w, (Instr.index 47 (.agg #[.int .u32 0, .int .u32 274646895, .int .u32 549293790, .int .u32 820201905, .int .u32 1098587580, .int .u32 1361435347, .int .u32 1640403810, .int .u32 1905808397, .int .u32 2197175160, .int .u32 2460548119, .int .u32 2722870694, .int .u32 2987750089, .int .u32 3280807620, .int .u32 3553878443, .int .u32 3811616794, .int .u32 4084100981]) (.int .u32 2)).run Try.prog w = .ok (.int .u32 549293790) w := fun _ => by kernel_rfl
  go_enter Try.func20, Try.ntmps20
  go_wp2
  go_ret
  exact ⟨rfl, Drawn0.refl _⟩
set_option maxHeartbeats 4000000 in
theorem crc_nibble.c3 (w : World) : Calls Try.prog 20 #[.int .u32 3] w fun e w' => e = .returned (.int .u32 820201905) ∧ Drawn0 w w' := by
  have i0 : ∀ w, (Instr.index 47 (.agg #[.int .u32 0, .int .u32 274646895, .int .u32 549293790, .int .u32 820201905, .int .u32 1098587580, .int .u32 1361435347, .int .u32 1640403810, .int .u32 1905808397, .int .u32 2197175160, .int .u32 2460548119, .int .u32 2722870694, .int .u32 2987750089, .int .u32 3280807620, .int .u32 3553878443, .int .u32 3811616794, .int .u32 4084100981]) (.int .u32 3)).run Try.prog w = .ok (.int .u32 820201905) w := fun _ => by kernel_rfl
  go_enter Try.func20, Try.ntmps20
  go_wp2
  go_ret
  exact ⟨rfl, Drawn0.refl _⟩
set_option maxHeartbeats 4000000 in
theorem crc_nibble.c4 (w : World) : Calls Try.prog 20 #[.int .u32 4] w fun e w' => e = .returned (.int .u32 1098587580) ∧ Drawn0 w w' := by
  have i0 : ∀ w, (Instr.index 47 (.agg #[.int .u32 0, .int .u32 274646895, .int .u32 549293790, .int .u32 820201905, .int .u32 1098587580, .int .u32 1361435347, .int .u32 1640403810, .int .u32 1905808397, .int .u32 2197175160, .int .u32 2460548119, .int .u32 2722870694, .int .u32 2987750089, .int .u32 3280807620, .int .u32 3553878443, .int .u32 3811616794, .int .u32 4084100981]) (.int .u32 4)).run Try.prog w = .ok (.int .u32 1098587580) w := fun _ => by kernel_rfl
  go_enter Try.func20, Try.ntmps20
  go_wp2
  go_ret
  exact ⟨rfl, Drawn0.refl _⟩
set_option maxHeartbeats 4000000 in
theorem crc_nibble.c5 (w : World) : Calls Try.prog 20 #[.int .u32 5] w fun e w' => e = .returned (.int .u32 1361435347) ∧ Drawn0 w w' := by
  have i0 : ∀ w, (Instr.index 47 (.agg #[.int .u32 0, .int .u32 274646895, .int .u32 549293790, .int .u32 820201905, .int .u32 1098587580, .int .u32 1361435347, .int .u32 1640403810, .int .u32 1905808397, .int .u32 2197175160, .int .u32 2460548119, .int .u32 2722870694, .int .u32 2987750089, .int .u32 3280807620, .int .u32 3553878443, .int .u32 3811616794, .int .u32 4084100981]) (.int .u32 5)).run Try.prog w = .ok (.int .u32 1361435347) w := fun _ => by kernel_rfl
  go_enter Try.func20, Try.ntmps20
  go_wp2
  go_ret
  exact ⟨rfl, Drawn0.refl _⟩
set_option maxHeartbeats 4000000 in
theorem crc_nibble.c6 (w : World) : Calls Try.prog 20 #[.int .u32 6] w fun e w' => e = .returned (.int .u32 1640403810) ∧ Drawn0 w w' := by
  have i0 : ∀ w, (Instr.index 47 (.agg #[.int .u32 0, .int .u32 274646895, .int .u32 549293790, .int .u32 820201905, .int .u32 1098587580, .int .u32 1361435347, .int .u32 1640403810, .int .u32 1905808397, .int .u32 2197175160, .int .u32 2460548119, .int .u32 2722870694, .int .u32 2987750089, .int .u32 3280807620, .int .u32 3553878443, .int .u32 3811616794, .int .u32 4084100981]) (.int .u32 6)).run Try.prog w = .ok (.int .u32 1640403810) w := fun _ => by kernel_rfl
  go_enter Try.func20, Try.ntmps20
  go_wp2
  go_ret
  exact ⟨rfl, Drawn0.refl _⟩
set_option maxHeartbeats 4000000 in
theorem crc_nibble.c7 (w : World) : Calls Try.prog 20 #[.int .u32 7] w fun e w' => e = .returned (.int .u32 1905808397) ∧ Drawn0 w w' := by
  have i0 : ∀ w, (Instr.index 47 (.agg #[.int .u32 0, .int .u32 274646895, .int .u32 549293790, .int .u32 820201905, .int .u32 1098587580, .int .u32 1361435347, .int .u32 1640403810, .int .u32 1905808397, .int .u32 2197175160, .int .u32 2460548119, .int .u32 2722870694, .int .u32 2987750089, .int .u32 3280807620, .int .u32 3553878443, .int .u32 3811616794, .int .u32 4084100981]) (.int .u32 7)).run Try.prog w = .ok (.int .u32 1905808397) w := fun _ => by kernel_rfl
  go_enter Try.func20, Try.ntmps20
  go_wp2
  go_ret
  exact ⟨rfl, Drawn0.refl _⟩
set_option maxHeartbeats 4000000 in
theorem crc_nibble.c8 (w : World) : Calls Try.prog 20 #[.int .u32 8] w fun e w' => e = .returned (.int .u32 2197175160) ∧ Drawn0 w w' := by
  have i0 : ∀ w, (Instr.index 47 (.agg #[.int .u32 0, .int .u32 274646895, .int .u32 549293790, .int .u32 820201905, .int .u32 1098587580, .int .u32 1361435347, .int .u32 1640403810, .int .u32 1905808397, .int .u32 2197175160, .int .u32 2460548119, .int .u32 2722870694, .int .u32 2987750089, .int .u32 3280807620, .int .u32 3553878443, .int .u32 3811616794, .int .u32 4084100981]) (.int .u32 8)).run Try.prog w = .ok (.int .u32 2197175160) w := fun _ => by kernel_rfl
  go_enter Try.func20, Try.ntmps20
  go_wp2
  go_ret
  exact ⟨rfl, Drawn0.refl _⟩
set_option maxHeartbeats 4000000 in
theorem crc_nibble.c9 (w : World) : Calls Try.prog 20 #[.int .u32 9] w fun e w' => e = .returned (.int .u32 2460548119) ∧ Drawn0 w w' := by
  have i0 : ∀ w, (Instr.index 47 (.agg #[.int .u32 0, .int .u32 274646895, .int .u32 549293790, .int .u32 820201905, .int .u32 1098587580, .int .u32 1361435347, .int .u32 1640403810, .int .u32 1905808397, .int .u32 2197175160, .int .u32 2460548119, .int .u32 2722870694, .int .u32 2987750089, .int .u32 3280807620, .int .u32 3553878443, .int .u32 3811616794, .int .u32 4084100981]) (.int .u32 9)).run Try.prog w = .ok (.int .u32 2460548119) w := fun _ => by kernel_rfl
  go_enter Try.func20, Try.ntmps20
  go_wp2
  go_ret
  exact ⟨rfl, Drawn0.refl _⟩
set_option maxHeartbeats 4000000 in
theorem crc_nibble.c10 (w : World) : Calls Try.prog 20 #[.int .u32 10] w fun e w' => e = .returned (.int .u32 2722870694) ∧ Drawn0 w w' := by
  have i0 : ∀ w, (Instr.index 47 (.agg #[.int .u32 0, .int .u32 274646895, .int .u32 549293790, .int .u32 820201905, .int .u32 1098587580, .int .u32 1361435347, .int .u32 1640403810, .int .u32 1905808397, .int .u32 2197175160, .int .u32 2460548119, .int .u32 2722870694, .int .u32 2987750089, .int .u32 3280807620, .int .u32 3553878443, .int .u32 3811616794, .int .u32 4084100981]) (.int .u32 10)).run Try.prog w = .ok (.int .u32 2722870694) w := fun _ => by kernel_rfl
  go_enter Try.func20, Try.ntmps20
  go_wp2
  go_ret
  exact ⟨rfl, Drawn0.refl _⟩
set_option maxHeartbeats 4000000 in
theorem crc_nibble.c11 (w : World) : Calls Try.prog 20 #[.int .u32 11] w fun e w' => e = .returned (.int .u32 2987750089) ∧ Drawn0 w w' := by
  have i0 : ∀ w, (Instr.index 47 (.agg #[.int .u32 0, .int .u32 274646895, .int .u32 549293790, .int .u32 820201905, .int .u32 1098587580, .int .u32 1361435347, .int .u32 1640403810, .int .u32 1905808397, .int .u32 2197175160, .int .u32 2460548119, .int .u32 2722870694, .int .u32 2987750089, .int .u32 3280807620, .int .u32 3553878443, .int .u32 3811616794, .int .u32 4084100981]) (.int .u32 11)).run Try.prog w = .ok (.int .u32 2987750089) w := fun _ => by kernel_rfl
  go_enter Try.func20, Try.ntmps20
  go_wp2
  go_ret
  exact ⟨rfl, Drawn0.refl _⟩
set_option maxHeartbeats 4000000 in
theorem crc_nibble.c12 (w : World) : Calls Try.prog 20 #[.int .u32 12] w fun e w' => e = .returned (.int .u32 3280807620) ∧ Drawn0 w w' := by
  have i0 : ∀ w, (Instr.index 47 (.agg #[.int .u32 0, .int .u32 274646895, .int .u32 549293790, .int .u32 820201905, .int .u32 1098587580, .int .u32 1361435347, .int .u32 1640403810, .int .u32 1905808397, .int .u32 2197175160, .int .u32 2460548119, .int .u32 2722870694, .int .u32 2987750089, .int .u32 3280807620, .int .u32 3553878443, .int .u32 3811616794, .int .u32 4084100981]) (.int .u32 12)).run Try.prog w = .ok (.int .u32 3280807620) w := fun _ => by kernel_rfl
  go_enter Try.func20, Try.ntmps20
  go_wp2
  go_ret
  exact ⟨rfl, Drawn0.refl _⟩
set_option maxHeartbeats 4000000 in
theorem crc_nibble.c13 (w : World) : Calls Try.prog 20 #[.int .u32 13] w fun e w' => e = .returned (.int .u32 3553878443) ∧ Drawn0 w w' := by
  have i0 : ∀ w, (Instr.index 47 (.agg #[.int .u32 0, .int .u32 274646895, .int .u32 549293790, .int .u32 820201905, .int .u32 1098587580, .int .u32 1361435347, .int .u32 1640403810, .int .u32 1905808397, .int .u32 2197175160, .int .u32 2460548119, .int .u32 2722870694, .int .u32 2987750089, .int .u32 3280807620, .int .u32 3553878443, .int .u32 3811616794, .int .u32 4084100981]) (.int .u32 13)).run Try.prog w = .ok (.int .u32 3553878443) w := fun _ => by kernel_rfl
  go_enter Try.func20, Try.ntmps20
  go_wp2
  go_ret
  exact ⟨rfl, Drawn0.refl _⟩
set_option maxHeartbeats 4000000 in
theorem crc_nibble.c14 (w : World) : Calls Try.prog 20 #[.int .u32 14] w fun e w' => e = .returned (.int .u32 3811616794) ∧ Drawn0 w w' := by
  have i0 : ∀ w, (Instr.index 47 (.agg #[.int .u32 0, .int .u32 274646895, .int .u32 549293790, .int .u32 820201905, .int .u32 1098587580, .int .u32 1361435347, .int .u32 1640403810, .int .u32 1905808397, .int .u32 2197175160, .int .u32 2460548119, .int .u32 2722870694, .int .u32 2987750089, .int .u32 3280807620, .int .u32 3553878443, .int .u32 3811616794, .int .u32 4084100981]) (.int .u32 14)).run Try.prog w = .ok (.int .u32 3811616794) w := fun _ => by kernel_rfl
  go_enter Try.func20, Try.ntmps20
  go_wp2
  go_ret
  exact ⟨rfl, Drawn0.refl _⟩
set_option maxHeartbeats 4000000 in
theorem crc_nibble.c15 (w : World) : Calls Try.prog 20 #[.int .u32 15] w fun e w' => e = .returned (.int .u32 4084100981) ∧ Drawn0 w w' := by
  have i0 : ∀ w, (Instr.index 47 (.agg #[.int .u32 0, .int .u32 274646895, .int .u32 549293790, .int .u32 820201905, .int .u32 1098587580, .int .u32 1361435347, .int .u32 1640403810, .int .u32 1905808397, .int .u32 2197175160, .int .u32 2460548119, .int .u32 2722870694, .int .u32 2987750089, .int .u32 3280807620, .int .u32 3553878443, .int .u32 3811616794, .int .u32 4084100981]) (.int .u32 15)).run Try.prog w = .ok (.int .u32 4084100981) w := fun _ => by kernel_rfl
  go_enter Try.func20, Try.ntmps20
  go_wp2
  go_ret
  exact ⟨rfl, Drawn0.refl _⟩
theorem crc_nibble.calls (a0 : Int) (r : Int) (w : World) (h : crc_nibble.f a0 = some r) :
    Calls Try.prog 20 #[.int .u32 a0] w fun e w' => e = .returned (.int .u32 r) ∧ Drawn0 w w' := by
  unfold crc_nibble.f at h
  by_cases h0 : 0 ≤ a0
  · rw [if_pos h0] at h
    by_cases h1 : a0 < 16
    · rw [if_pos h1] at h
      obtain rfl := Option.some.inj h
      have : a0 = 0 ∨ a0 = 1 ∨ a0 = 2 ∨ a0 = 3 ∨ a0 = 4 ∨ a0 = 5 ∨ a0 = 6 ∨ a0 = 7 ∨ a0 = 8 ∨ a0 = 9 ∨ a0 = 10 ∨ a0 = 11 ∨ a0 = 12 ∨ a0 = 13 ∨ a0 = 14 ∨ a0 = 15 := by omega
      rcases this with rfl | rfl | rfl | rfl | rfl | rfl | rfl | rfl | rfl | rfl | rfl | rfl | rfl | rfl | rfl | rfl
      · exact crc_nibble.c0 w
      · exact crc_nibble.c1 w
      · exact crc_nibble.c2 w
      · exact crc_nibble.c3 w
      · exact crc_nibble.c4 w
      · exact crc_nibble.c5 w
      · exact crc_nibble.c6 w
      · exact crc_nibble.c7 w
      · exact crc_nibble.c8 w
      · exact crc_nibble.c9 w
      · exact crc_nibble.c10 w
      · exact crc_nibble.c11 w
      · exact crc_nibble.c12 w
      · exact crc_nibble.c13 w
      · exact crc_nibble.c14 w
      · exact crc_nibble.c15 w
    · rw [if_neg h1] at h
      exact absurd h (by simp)
  · rw [if_neg h0] at h
    exact absurd h (by simp)

end Go.Proofs.Ytbpffhdecbgmpaa.F
