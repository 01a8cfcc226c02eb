-- Written by ext (this session's own program).
-- in short rows (short.py)
import Derived.Test.YtbmmddngadnofaaFx0
namespace Go.Proofs.Ytbmmddngadnofaa.F
open Go.RowKit Go.Proofs.YtbmmddngadnofaaW.PrintWords Go.Proofs.YtbmmddngadnofaaW.PrintLast Go.Proofs.YtbmmddngadnofaaW.PrintMore
attribute [local go_sem] max2_int min2_int max_two min_two max_three min_three max_four min_four   -- for this text's walks alone
set_option linter.unusedVariables false
set_option linter.unusedSimpArgs false

/-! ### plinthref25_row: function 45 -/
def plinthref25_row.f (l0 : List Int) (a1 : Int) : Option (List Int) := (some (([] : List Int) : List Int)).bind fun y203 => (if 0 ≤ (wrap64 ((wrap64 (Int.tdiv a1 4)) * 4)) then (if (wrap64 ((wrap64 (Int.tdiv a1 4)) * 4)) ≤ (mn (wrap64 ((wrap64 ((wrap64 (Int.tdiv a1 4)) * 4)) + 4)) (l0.length : Int)) then (if (mn (wrap64 ((wrap64 ((wrap64 (Int.tdiv a1 4)) * 4)) + 4)) (l0.length : Int)) ≤ (l0.length : Int) then ((some ((l0.take ((mn (wrap64 ((wrap64 ((wrap64 (Int.tdiv a1 4)) * 4)) + 4)) (l0.length : Int)) : Int).toNat).drop ((wrap64 ((wrap64 (Int.tdiv a1 4)) * 4)) : Int).toNat : List Int)).bind fun y206 => (if y203.length + y206.length < 35184372088832 then (some (y203 ++ y206)) else (none))) else (none)) else (none)) else (none))
set_option maxHeartbeats 8000000 in
set_option maxRecDepth 100000 in
theorem plinthref25_row.calls (A0 : Option Addr) (c0 : Nat) (l0 : List Int) (a1 : Int) (r : List Int) (w : World) (hr0 : Kd.C (Kd.int .u32) w A0 l0.length l0) (hc0 : l0.length ≤ c0) (h : plinthref25_row.f l0 a1 = some r) :
  Calls Try.prog 45 #[.slice A0 l0.length c0, .int .i64 a1] w fun e w' => ∃ v0_ : Value, e = .returned (v0_) ∧ Kd.R (Kd.int .u32) 25 w' w.heap.size (fun _ => True) v0_ r ∧ Below w.heap.size w w' := by
 have HR0 := Aside0.mk hr0
 have HC0 := Aside0.mk hc0
 clear hr0 hc0
 have HB := Aside0.mk (Below.refl w.heap.size w)
 have H : ((some (([] : List Int) : List Int)).bind fun y203 => (if 0 ≤ (wrap64 ((wrap64 (Int.tdiv a1 4)) * 4)) then (if (wrap64 ((wrap64 (Int.tdiv a1 4)) * 4)) ≤ (mn (wrap64 ((wrap64 ((wrap64 (Int.tdiv a1 4)) * 4)) + 4)) (l0.length : Int)) then (if (mn (wrap64 ((wrap64 ((wrap64 (Int.tdiv a1 4)) * 4)) + 4)) (l0.length : Int)) ≤ (l0.length : Int) then ((some ((l0.take ((mn (wrap64 ((wrap64 ((wrap64 (Int.tdiv a1 4)) * 4)) + 4)) (l0.length : Int)) : Int).toNat).drop ((wrap64 ((wrap64 (Int.tdiv a1 4)) * 4)) : Int).toNat : List Int)).bind fun y206 => (if y203.length + y206.length < 35184372088832 then (some (y203 ++ y206)) else (none))) else (none)) else (none)) else (none))) = some r := h
 clear h
 obtain ⟨y203, hy203⟩ : ∃ y_ : List Int, y_ = (([] : List Int)) := ⟨_, rfl⟩
 replace H : (if 0 ≤ (wrap64 ((wrap64 (Int.tdiv a1 4)) * 4)) then (if (wrap64 ((wrap64 (Int.tdiv a1 4)) * 4)) ≤ (mn (wrap64 ((wrap64 ((wrap64 (Int.tdiv a1 4)) * 4)) + 4)) (l0.length : Int)) then (if (mn (wrap64 ((wrap64 ((wrap64 (Int.tdiv a1 4)) * 4)) + 4)) (l0.length : Int)) ≤ (l0.length : Int) then ((some ((l0.take ((mn (wrap64 ((wrap64 ((wrap64 (Int.tdiv a1 4)) * 4)) + 4)) (l0.length : Int)) : Int).toNat).drop ((wrap64 ((wrap64 (Int.tdiv a1 4)) * 4)) : Int).toNat : List Int)).bind fun y206 => (if y203.length + y206.length < 35184372088832 then (some (y203 ++ y206)) else (none))) else (none)) else (none)) else (none)) = some r := by first | (rw [hy203]; with_reducible exact H) | (have H2_ := (Option.bind_some _ _).symm.trans H; rw [hy203]; with_reducible exact H2_) | (have H2_ := (Option.bind_some _ _).symm.trans H; with_reducible exact H2_) | with_reducible exact H | (rw [hy203]; exact H) | exact H
 have Ny203 := Aside0.mk hy203
 clear hy203
 obtain ⟨ji3, hji3⟩ : ∃ j_ : Int, (mn (wrap64 ((wrap64 ((wrap64 (Int.tdiv a1 4)) * 4)) + 4)) (l0.length : Int)) = j_ := ⟨_, rfl⟩
 replace H : (if 0 ≤ (wrap64 ((wrap64 (Int.tdiv a1 4)) * 4)) then (if (wrap64 ((wrap64 (Int.tdiv a1 4)) * 4)) ≤ (ji3) then (if (ji3) ≤ (l0.length : Int) then ((some ((l0.take ((ji3) : Int).toNat).drop ((wrap64 ((wrap64 (Int.tdiv a1 4)) * 4)) : Int).toNat : List Int)).bind fun y206 => (if y203.length + y206.length < 35184372088832 then (some (y203 ++ y206)) else (none))) else (none)) else (none)) else (none)) = some r := by first | (rw [hji3] at H; exact H) | (simp only [hji3] at H ⊢; exact H)
 have hji3_ : (if (l0.length : Int) < (wrap64 ((wrap64 ((wrap64 (Int.tdiv a1 4)) * 4)) + 4)) then (l0.length : Int) else (wrap64 ((wrap64 ((wrap64 (Int.tdiv a1 4)) * 4)) + 4))) = ji3 := hji3
 obtain ⟨ji4, hji4⟩ : ∃ j_ : Int, (wrap64 ((wrap64 (Int.tdiv a1 4)) * 4)) = j_ := ⟨_, rfl⟩
 replace H : (if 0 ≤ (ji4) then (if (ji4) ≤ (ji3) then (if (ji3) ≤ (l0.length : Int) then ((some ((l0.take ((ji3) : Int).toNat).drop ((ji4) : Int).toNat : List Int)).bind fun y206 => (if y203.length + y206.length < 35184372088832 then (some (y203 ++ y206)) else (none))) else (none)) else (none)) else (none)) = some r := by first | (rw [hji4] at H; exact H) | (simp only [hji4] at H ⊢; exact H)
 have hji4w : (IntKind.i64.wrap ((wrap64 (Int.tdiv a1 4)) * 4)) = ji4 := (i64_w _).trans hji4
 (try simp only [hji4] at hji3)
 (try simp only [hji4] at hji3_)
 by_cases c5 : 0 ≤ (ji4)
 ·rw [if_pos c5] at H
  have c5b0 := eq_true c5
  have c5b1 : decide (0 ≤ (ji4)) = true := decide_eq_true c5
  clear c5
  by_cases c6 : (ji4) ≤ (ji3)
  ·rw [if_pos c6] at H
   have c6b0 := eq_true c6
   have c6b1 : decide ((ji4) ≤ (ji3)) = true := decide_eq_true c6
   clear c6
   by_cases c7 : (ji3) ≤ (l0.length : Int)
   ·rw [if_pos c7] at H
    have c7b0 := eq_true c7
    have c7b1 : decide ((ji3) ≤ (l0.length : Int)) = true := decide_eq_true c7
    clear c7
    obtain ⟨y206, hy206⟩ : ∃ y_ : List Int, y_ = ((l0.take ((ji3) : Int).toNat).drop ((ji4) : Int).toNat) := ⟨_, rfl⟩
    replace H : (if y203.length + y206.length < 35184372088832 then (some (y203 ++ y206)) else (none)) = some r := by first | (rw [hy206]; with_reducible exact H) | (have H2_ := (Option.bind_some _ _).symm.trans H; rw [hy206]; with_reducible exact H2_) | (have H2_ := (Option.bind_some _ _).symm.trans H; with_reducible exact H2_) | with_reducible exact H | (rw [hy206]; exact H) | exact H
    have Ny206 := Aside0.mk hy206
    clear hy206
    by_cases c8 : y203.length + y206.length < 35184372088832
    ·rw [if_pos c8] at H
     have LMc8 := Aside0.mk c8
     clear c8
     obtain ⟨y210, hy210⟩ : ∃ y_ : List Int, y_ = (y203 ++ y206) := ⟨_, rfl⟩
     replace H : (some y210) = some r := by first | (rw [hy210]; with_reducible exact H) | (have H2_ := (Option.bind_some _ _).symm.trans H; rw [hy210]; with_reducible exact H2_) | (have H2_ := (Option.bind_some _ _).symm.trans H; with_reducible exact H2_) | with_reducible exact H | (rw [hy210]; exact H) | exact H
     have Ny210 := Aside0.mk hy210
     clear hy210
     obtain rfl := Option.some.inj H
     go_enter Try.func45, Try.ntmps45
     go_wp2_with (first | ((with_reducible refine gate_dst (N := 9) rfl ?_); refine Kd.R_lit (Kd.int .u32) _ 25 ?hg (N := 9) ?hd (xs := ([] : List Int)) (inner := []) (ok := fun _ => True) (okp := fun _ => True) ?hr ?hp (fun _ hk => hk) trivial (Below.refl _ _) (Nat.le_refl _) (by simp) ?_; (case hd => rfl); (case hg => rfl); (case hr => first | (go_simp; done) | (go_simp; rfl)); (case hp => exact (Reps.none _ _)); intro v204 w9 ho10 hb hg_ hnew_; clear hg_ hnew_; (first | rw [← Ny203.out] at ho10 | (simp only [Int.reduceToNat] at ho10; rw [← Ny203.out] at ho10)); have HO205 := Aside0.mk (Kd.R_lower ho10 (below_size (upB0 HB.out))); replace HB := Aside0.mk (below_step (upB0 HB.out) hb); clear hb ho10; have q11 : ((ji3) : Int) ≤ ((l0.length : Int) : Int) := of_decide_eq_true (by first | (with_reducible assumption) | assumption); obtain ⟨i011, hi011, _, hsz11, _⟩ := info_parts info25; have hroom11 : l0.length ≤ c0 := HC0.out; have hC11 : Kd.C (Kd.int .u32) _ A0 l0.length l0 := HR0.out; have ql11 : ((ji4) : Int) ≤ ((ji3) : Int) := of_decide_eq_true (by first | (with_reducible assumption) | assumption); have q011 : (0 : Int) ≤ ((ji4) : Int) := of_decide_eq_true (by first | (with_reducible assumption) | assumption); have hcut11 := cut_mid (P := Try.prog) 40 25 .i64 .i64 Try.underlying40 hi011 1 hsz11 A0 l0.length c0 (ji4) (ji3) q011 ql11 q11 hroom11; have hr11 := Kd.C_mid (lo := ((ji4) : Int).toNat) (hi := ((ji3) : Int).toNat) (c := c0) hC11 (by omega) (by omega) hroom11; obtain ⟨A11, hA11⟩ : ∃ A1, A1 = (if c0 = ((ji4) : Int).toNat then A0 else (A0 : Option Addr).map (·.add (((ji4) : Int).toNat * 1))) := ⟨_, rfl⟩; obtain ⟨c11, hc11⟩ : ∃ c1, c1 = c0 - ((ji4) : Int).toNat := ⟨_, rfl⟩; have hy11 : y206.length = ((ji3) : Int).toNat - ((ji4) : Int).toNat := (by rw [Ny206.out, List.length_drop, List.length_take] <;> omega); rw [show ((l0).take ((ji3) : Int).toNat).drop ((ji4) : Int).toNat = y206 from Ny206.out.symm] at hr11; replace hr11 : Kd.C (Kd.int .u32) _ A11 y206.length y206 := (by rw [hA11]; exact hr11); rw [← hy11, ← hA11, ← hc11] at hcut11; have HR209 := Aside0.mk hr11; have HC209 := Aside0.mk (show y206.length ≤ c11 from by rw [hy11, hc11]; exact Nat.sub_le_sub_right (Nat.le_trans (by omega) hroom11) _); clear hr11 hC11 hroom11 hi011 hsz11 hc11; have KY11 := Aside0.mk hy11; have KA11 := Aside0.mk hA11; clear hy11 hA11; replace q11 := eq_true q11) | ((with_reducible refine gate_builtin (b := .append) (xs := #[.tmp 9, .tmp 17]) rfl ?_); at_builtin; refine Kd.R_append_rows (Kd.int .u32) (w0 := w) w.heap.size rfl (.tmp 9) (.tmp 17) 40 25 (.int .u32 0) 4 rfl Try.underlying40 info25 rfl (by decide) (by omega) v204 y203 y206 _ _ _ (fun _ => True) (fun _ => False) rfl rfl ?aO ?aR (fun _ _ h => h) (fun _ h => h.elim) ?aF ?aB ?aS ?aL ?_; (case aR => exact upC ((Kd.C_below HR209.out HB.out))); (case aB => exact (upB0 HB.out)); (case aF => exact (fun _ _ => trivial)); (case aO => exact (upR HO205.out)); (case aS => exact (below_size (upB0 HB.out))); (case aL => have := LMc8.out; omega); intro v211 w12 ho hb hg hat; rw [← Ny210.out] at ho; have n0_ := Aside0.mk (hb); have n1_ := Aside0.mk (ho); clear HB; clear HO205; have HB := n0_; have HO212 := n1_; clear n0_ n1_; clear ho hb hg hat))
     go_ret
     exact ⟨_, by first | rfl | (simp [errW_none, errW_some] <;> rfl) | (simp only [← hji3, ← hji4]; first | rfl | (simp [errW_none, errW_some] <;> rfl)) | (simp [*, errW_none, errW_some] <;> rfl), by refine upR ?_; exact HO212.out, upB0 HB.out⟩
    ·rw [if_neg c8] at H
     exact absurd H (by simp)
   ·rw [if_neg c7] at H
    exact absurd H (by simp)
  ·rw [if_neg c6] at H
   exact absurd H (by simp)
 ·rw [if_neg c5] at H
  exact absurd H (by simp)

end Go.Proofs.Ytbmmddngadnofaa.F
