-- Written by ext (this session's own program).
-- in short rows (short.py)
import Derived.Test.YtbmmddngadnofaaFx0
namespace Go.Proofs.Ytbmmddngadnofaa.F
open Go.RowKit Go.Proofs.YtbmmddngadnofaaW.PrintWords Go.Proofs.YtbmmddngadnofaaW.PrintLast Go.Proofs.YtbmmddngadnofaaW.PrintMore
attribute [local go_sem] max2_int min2_int max_two min_two max_three min_three max_four min_four   -- for this text's walks alone
set_option linter.unusedVariables false
set_option linter.unusedSimpArgs false

/-! ### machine_Group: function 79 -/
mutual
def machine_Group.j0 : Nat → Bool → Int → List Int → Option (Int)
 | 0, _, _, _ => none
 | k + 1, x3, x533000, x533001 => machine_Group.l0 k x3 (-1) x533001 (x533001.length : Int) 0
def machine_Group.l0 : Nat → Bool → Int → List Int → Int → Int → Option (Int)
 | 0, _, _, _, _, _ => none
 | k + 1, x3, x4, x28, x29, x30 => if x30 < x29 then (if 0 ≤ x30 then (if x30 < (x28.length : Int) then (if x3 = true then (if (rd x28 x30) > x4 then (machine_Group.l0 k (decide ((rd x28 x30) < 64)) (rd x28 x30) x28 x29 (wrap64 (x30 + 1))) else (machine_Group.l0 k false (rd x28 x30) x28 x29 (wrap64 (x30 + 1)))) else (machine_Group.l0 k false (rd x28 x30) x28 x29 (wrap64 (x30 + 1)))) else (none)) else (none)) else (if x3 = true then (some 0) else (some 71))
end
def machine_Group.f (k : Nat) (a0_0 : Int) (l0_1 : List Int) : Option (Int) := if a0_0 ≥ 0 then (if a0_0 ≤ 4611686018427387904 then (if (l0_1.length : Int) > 0 then (machine_Group.j0 k (decide ((l0_1.length : Int) ≤ 9)) a0_0 l0_1) else (machine_Group.j0 k false a0_0 l0_1)) else (machine_Group.j0 k false a0_0 l0_1)) else (machine_Group.j0 k false a0_0 l0_1)
theorem machine_Group.mono_l : ∀ k, (∀ y0 y1 y2, LeO (machine_Group.j0 k y0 y1 y2) (machine_Group.j0 (k + 1) y0 y1 y2)) ∧ (∀ y0 y1 y2 y3 y4, LeO (machine_Group.l0 k y0 y1 y2 y3 y4) (machine_Group.l0 (k + 1) y0 y1 y2 y3 y4))
 | 0 => ⟨fun _ _ _ r h => by simp [machine_Group.j0] at h, fun _ _ _ _ _ r h => by simp [machine_Group.l0] at h⟩
 | k + 1 => by
  obtain ⟨ih0, ih1⟩ := machine_Group.mono_l k
  refine ⟨?_, ?_⟩
  ·intro y0 y1 y2
   unfold machine_Group.j0
   repeat' first
   | (with_reducible exact ih0 _ _ _)
   | (with_reducible exact ih1 _ _ _ _ _)
   | (with_reducible exact LeO.refl _)
   | (with_reducible exact LeO.none _)
   | (with_reducible refine LeO.ite ?_ ?_)
   | (with_reducible refine LeO.bind ?_ (fun _ => ?_))
   | exact ih0 _ _ _
   | exact ih1 _ _ _ _ _
   | exact LeO.none _
   | refine LeO.ite ?_ ?_
   | refine LeO.bind ?_ (fun _ => ?_)
  ·intro y0 y1 y2 y3 y4
   unfold machine_Group.l0
   repeat' first
   | (with_reducible exact ih0 _ _ _)
   | (with_reducible exact ih1 _ _ _ _ _)
   | (with_reducible exact LeO.refl _)
   | (with_reducible exact LeO.none _)
   | (with_reducible refine LeO.ite ?_ ?_)
   | (with_reducible refine LeO.bind ?_ (fun _ => ?_))
   | exact ih0 _ _ _
   | exact ih1 _ _ _ _ _
   | exact LeO.none _
   | refine LeO.ite ?_ ?_
   | refine LeO.bind ?_ (fun _ => ?_)
theorem machine_Group.mono : ∀ a0 a1 k, LeO (machine_Group.f k a0 a1) (machine_Group.f (k + 1) a0 a1) := by
 intro a0 a1 k
 obtain ⟨ih0, ih1⟩ := machine_Group.mono_l k
 unfold machine_Group.f
 repeat' first
   | (with_reducible exact ih0 _ _ _)
   | (with_reducible exact ih1 _ _ _ _ _)
   | (with_reducible exact LeO.refl _)
   | (with_reducible exact LeO.none _)
   | (with_reducible refine LeO.ite ?_ ?_)
   | (with_reducible refine LeO.bind ?_ (fun _ => ?_))
   | exact ih0 _ _ _
   | exact ih1 _ _ _ _ _
   | exact LeO.none _
   | refine LeO.ite ?_ ?_
   | refine LeO.bind ?_ (fun _ => ?_)
set_option maxHeartbeats 8000000 in
set_option maxRecDepth 100000 in
theorem machine_Group.calls (k : Nat) (a0_0 : Int) (A0_1 : Option Addr) (c0_1 : Nat) (l0_1 : List Int) (r : Int) (w : World) (hr0_1 : Kd.C (Kd.int .i64) w A0_1 l0_1.length l0_1) (hc0_1 : l0_1.length ≤ c0_1) (h : machine_Group.f k a0_0 l0_1 = some r) :
  Calls Try.prog 79 #[.agg #[.int .i64 a0_0, .slice A0_1 l0_1.length c0_1]] w fun e w' => e = .returned (.int .i64 r) ∧ Below w.heap.size w w' := by
 have hu67 := Try.underlying67
 have HR0_1 := Aside0.mk hr0_1
 have HC0_1 := Aside0.mk hc0_1
 clear hr0_1 hc0_1
 have HB := Aside0.mk (Below.refl w.heap.size w)
 have H : (if a0_0 ≥ 0 then (if a0_0 ≤ 4611686018427387904 then (if (l0_1.length : Int) > 0 then (machine_Group.j0 k (decide ((l0_1.length : Int) ≤ 9)) a0_0 l0_1) else (machine_Group.j0 k false a0_0 l0_1)) else (machine_Group.j0 k false a0_0 l0_1)) else (machine_Group.j0 k false a0_0 l0_1)) = some r := h
 clear h
 have HC2 := Aside0.mk H
 clear H
 go_enter Try.func79, Try.ntmps79
 go_upto_region 1 with (first | ((with_reducible refine gate_dst (N := 1) rfl ?_); (try (refine gate_guard (by rfl) ?_; dsimp only)); refine box_event ?hg (N := 1) ?hd (cs := #[.int .i64 a0_0, .slice A0_1 l0_1.length c0_1]) (t := 67) ?hr ?_; (case hd => rfl); (case hg => rfl); (case hr => first | (go_simp; done) | (go_simp; rfl)); intro gb532 hg w3 hbox hb; have BK532 := Aside0.mk (hbox); have GW532 := Aside0.mk ((by rw [hg]; exact (below_size (upB0 HB.out)) : w.heap.size ≤ gb532)); have GE532 := Aside0.mk ((by rw [hg]; exact (below_size (upB0 HB.out)) : w.heap.size ≤ gb532)); replace HB := Aside0.mk (below_step (upB0 HB.out) hb); clear hb hbox hg))
 (try simp only [Act.put, List.setIfInBounds_toArray, List.set_cons_zero, List.set_cons_succ])
 go_cut [3] (fun v3 wc => ∃ (kq : Nat) (x3_1 : Bool), v3 = .bool x3_1 ∧ Aside0 (machine_Group.j0 kq x3_1 a0_0 l0_1 = some r) ∧ Aside0 (kq ≤ k) ∧ Aside0 (wc.heap[gb532]? = some (.cells #[.int .i64 a0_0, (.slice A0_1 l0_1.length c0_1)] 67 (0, 0))) ∧ Aside0 (Below w.heap.size w wc))
 case first =>
  have H := HC2.out
  clear HC2
  by_cases c4 : a0_0 ≥ 0
  ·rw [if_pos c4] at H
   have c4b0 : decide (0 ≤ a0_0) = true := decide_eq_true c4
   clear c4
   (first | rw [c4b0] | (simp only [i64_w, i32_w]; rw [c4b0]) | skip)
   by_cases c5 : a0_0 ≤ 4611686018427387904
   ·rw [if_pos c5] at H
    have c5b0 : decide (a0_0 ≤ 4611686018427387904) = true := decide_eq_true c5
    clear c5
    by_cases c6 : (l0_1.length : Int) > 0
    ·rw [if_pos c6] at H
     have c6b0 : decide (0 < (l0_1.length : Int)) = true := decide_eq_true c6
     have c6b1 : decide (0 < l0_1.length) = true := decide_eq_true (by omega)
     clear c6
     have H' := Aside0.mk H
     clear H
     obtain ⟨hcz7_0, hcz7_1, hfz7_0, hfz7_1⟩ := cells2 BK532.out
     go_wp2
     go_meet
     case rel => exact ⟨_, (decide ((l0_1.length : Int) ≤ 9)), (by first | rfl | (simp; done) | (simp [*]; done)), H', ⟨by first | omega | exact Nat.le_refl _⟩, ⟨by refine upK ?_; exact BK532.out⟩, ⟨upB1 HB.out GE532.out⟩⟩
    ·rw [if_neg c6] at H
     have c6b0 : decide (0 < (l0_1.length : Int)) = false := decide_eq_false c6
     have c6b1 : decide (0 < l0_1.length) = false := decide_eq_false (by omega)
     clear c6
     have H' := Aside0.mk H
     clear H
     obtain ⟨hcz8_0, hcz8_1, hfz8_0, hfz8_1⟩ := cells2 BK532.out
     go_wp2
     go_meet
     case rel => exact ⟨_, (false), (by first | rfl | (simp; done) | (simp [*]; done)), H', ⟨by first | omega | exact Nat.le_refl _⟩, ⟨by refine upK ?_; exact BK532.out⟩, ⟨upB1 HB.out GE532.out⟩⟩
   ·rw [if_neg c5] at H
    have c5b0 : decide (a0_0 ≤ 4611686018427387904) = false := decide_eq_false c5
    clear c5
    have H' := Aside0.mk H
    clear H
    obtain ⟨hcz9_0, hcz9_1, hfz9_0, hfz9_1⟩ := cells2 BK532.out
    go_wp2
    go_meet
    case rel => exact ⟨_, (false), (by first | rfl | (simp; done) | (simp [*]; done)), H', ⟨by first | omega | exact Nat.le_refl _⟩, ⟨by refine upK ?_; exact BK532.out⟩, ⟨upB1 HB.out GE532.out⟩⟩
  ·rw [if_neg c4] at H
   have c4b0 : decide (0 ≤ a0_0) = false := decide_eq_false c4
   clear c4
   (first | rw [c4b0] | (simp only [i64_w, i32_w]; rw [c4b0]) | skip)
   have H' := Aside0.mk H
   clear H
   obtain ⟨hcz10_0, hcz10_1, hfz10_0, hfz10_1⟩ := cells2 BK532.out
   go_wp2
   go_meet
   case rel => exact ⟨_, (false), (by first | rfl | (simp; done) | (simp [*]; done)), H', ⟨by first | omega | exact Nat.le_refl _⟩, ⟨by refine upK ?_; exact BK532.out⟩, ⟨upB1 HB.out GE532.out⟩⟩
 case rest =>
  clear HC2
  (try clear p2); (try clear c4); (try clear c4b0); (try clear c5); (try clear c5b0); (try clear c6); (try clear c6b0); (try clear c6b1); (try clear c7); (try clear hcz10_0); (try clear hcz10_1); (try clear hcz7_0); (try clear hcz7_1); (try clear hcz8_0); (try clear hcz8_1); (try clear hcz9_0); (try clear hcz9_1); (try clear hfz10_0); (try clear hfz10_1); (try clear hfz7_0); (try clear hfz7_1); (try clear hfz8_0); (try clear hfz8_1); (try clear hfz9_0); (try clear hfz9_1)
  obtain ⟨kq, x3_1, rfl, HA, HJ1, BK532, HB⟩ := hcut
  cases kq with
  | zero => exact absurd HA.out (by simp [machine_Group.j0])
  | succ kj1 =>
   have H := HA.out
   clear HA
   simp only [machine_Group.j0] at H
   have H' := Aside0.mk H
   clear H
   obtain ⟨hcz11_0, hcz11_1, hfz11_0, hfz11_1⟩ := cells2 BK532.out
   go_wp2
   go_loopg [3, 4, 30] kj1 (fun kq v3 v4 v30 w' => ∃ (x3_2 : Bool) (x4_2 : Int) (x30_2 : Int), v3 = .bool x3_2 ∧ v4 = .int .i64 x4_2 ∧ v30 = .int .i64 x30_2 ∧ Aside0 (machine_Group.l0 kq x3_2 x4_2 l0_1 (l0_1.length : Int) x30_2 = some r) ∧ Aside0 (kq ≤ kj1) ∧ Aside0 (w'.heap[gb532]? = some (.cells #[.int .i64 a0_0, (.slice A0_1 l0_1.length c0_1)] 67 (0, 0))) ∧ Aside0 (Below w.heap.size w w'))
   case atStart => exact ⟨(x3_1), ((-1)), (0), (by first | rfl | (simp; done) | (simp [*]; done)), (by first | rfl | (simp; done) | (simp [*]; done)), (by first | rfl | (simp; done) | (simp [*]; done)), H', ⟨Nat.le_refl _⟩, ⟨by refine upK ?_; exact BK532.out⟩, ⟨upB1 HB.out GE532.out⟩⟩
   case round =>
    clear H'
    (try clear p2); (try clear c4); (try clear c4b0); (try clear c5); (try clear c5b0); (try clear c6); (try clear c6b0); (try clear c6b1); (try clear c7); (try clear hcz10_0); (try clear hcz10_1); (try clear hcz11_0); (try clear hcz11_1); (try clear hcz7_0); (try clear hcz7_1); (try clear hcz8_0); (try clear hcz8_1); (try clear hcz9_0); (try clear hcz9_1); (try clear hfz10_0); (try clear hfz10_1); (try clear hfz11_0); (try clear hfz11_1); (try clear hfz7_0); (try clear hfz7_1); (try clear hfz8_0); (try clear hfz8_1); (try clear hfz9_0); (try clear hfz9_1); (try clear p2)
    obtain ⟨x3_2, x4_2, x30_2, rfl, rfl, rfl, HA, HK2, BK532, HB⟩ := hrel
    cases gk with
    | zero => exact absurd HA.out (by simp [machine_Group.l0])
    | succ k2 =>
     have H := HA.out
     clear HA
     simp only [machine_Group.l0] at H
     by_cases c12 : x30_2 < (l0_1.length : Int)
     ·rw [if_pos c12] at H
      have c12b0 : decide (x30_2 < (l0_1.length : Int)) = true := decide_eq_true c12
      clear c12
      by_cases c13 : 0 ≤ x30_2
      ·rw [if_pos c13] at H
       have c13b0 : decide (0 ≤ x30_2) = true := decide_eq_true c13
       clear c13
       by_cases c14 : x30_2 < (l0_1.length : Int)
       ·rw [if_pos c14] at H
        have c14b0 : decide (x30_2 < (l0_1.length : Int)) = true := decide_eq_true c14
        clear c14
        by_cases c15 : x3_2 = true
        ·subst c15
         have H1 : (if (rd l0_1 x30_2) > x4_2 then (machine_Group.l0 k2 (decide ((rd l0_1 x30_2) < 64)) (rd l0_1 x30_2) l0_1 (l0_1.length : Int) (wrap64 (x30_2 + 1))) else (machine_Group.l0 k2 false (rd l0_1 x30_2) l0_1 (l0_1.length : Int) (wrap64 (x30_2 + 1)))) = some r := by rw [if_pos rfl] at H; exact H
         clear H
         have H := H1
         clear H1
         by_cases c16 : (rd l0_1 x30_2) > x4_2
         ·rw [if_pos c16] at H
          have c16b0 : decide (x4_2 < (rd l0_1 x30_2)) = true := decide_eq_true c16
          clear c16
          have H' := Aside0.mk H
          clear H
          have p533 : 0 ≤ (x30_2 : Int) := of_decide_eq_true (by first | (with_reducible assumption) | assumption)
          have q533 : x30_2 < (l0_1.length : Int) := of_decide_eq_true (by first | (with_reducible assumption) | assumption)
          obtain ⟨ad533, e533, hx533_0⟩ := Kd.at_int HR0_1.out x30_2 p533 q533
          cases e533
          replace hx533_0 := (HB.out.cell (World.block_lt_of_cell? w _ hx533_0)).trans hx533_0
          replace p533 := eq_true p533
          replace q533 := eq_true q533
          go_wp2
          go_roundg k2
          case measure => have := HJ1.out; have := HK2.out; omega
          case rel => exact ⟨(decide ((rd l0_1 x30_2) < 64)), (rd l0_1 x30_2), (wrap64 (x30_2 + 1)), (by first | rfl | (simp; done) | (simp [*]; done)), (by first | rfl | (simp; done) | (simp [*]; done)), (by first | rfl | (simp; done) | (simp [*]; done)), H', ⟨by have := HJ1.out; have := HK2.out; omega⟩, ⟨by refine upK ?_; exact BK532.out⟩, ⟨upB1 HB.out GE532.out⟩⟩
         ·rw [if_neg c16] at H
          have c16b0 : decide (x4_2 < (rd l0_1 x30_2)) = false := decide_eq_false c16
          clear c16
          have H' := Aside0.mk H
          clear H
          have p533 : 0 ≤ (x30_2 : Int) := of_decide_eq_true (by first | (with_reducible assumption) | assumption)
          have q533 : x30_2 < (l0_1.length : Int) := of_decide_eq_true (by first | (with_reducible assumption) | assumption)
          obtain ⟨ad533, e533, hx533_0⟩ := Kd.at_int HR0_1.out x30_2 p533 q533
          cases e533
          replace hx533_0 := (HB.out.cell (World.block_lt_of_cell? w _ hx533_0)).trans hx533_0
          replace p533 := eq_true p533
          replace q533 := eq_true q533
          go_wp2
          go_roundg k2
          case measure => have := HJ1.out; have := HK2.out; omega
          case rel => exact ⟨(false), (rd l0_1 x30_2), (wrap64 (x30_2 + 1)), (by first | rfl | (simp; done) | (simp [*]; done)), (by first | rfl | (simp; done) | (simp [*]; done)), (by first | rfl | (simp; done) | (simp [*]; done)), H', ⟨by have := HJ1.out; have := HK2.out; omega⟩, ⟨by refine upK ?_; exact BK532.out⟩, ⟨upB1 HB.out GE532.out⟩⟩
        ·replace c15 := Bool.eq_false_iff.mpr c15
         subst c15
         have H1 : (machine_Group.l0 k2 false (rd l0_1 x30_2) l0_1 (l0_1.length : Int) (wrap64 (x30_2 + 1))) = some r := by rw [if_neg (show ¬ (false = true) by decide)] at H; exact H
         clear H
         have H := H1
         clear H1
         have H' := Aside0.mk H
         clear H
         have p533 : 0 ≤ (x30_2 : Int) := of_decide_eq_true (by first | (with_reducible assumption) | assumption)
         have q533 : x30_2 < (l0_1.length : Int) := of_decide_eq_true (by first | (with_reducible assumption) | assumption)
         obtain ⟨ad533, e533, hx533_0⟩ := Kd.at_int HR0_1.out x30_2 p533 q533
         cases e533
         replace hx533_0 := (HB.out.cell (World.block_lt_of_cell? w _ hx533_0)).trans hx533_0
         replace p533 := eq_true p533
         replace q533 := eq_true q533
         go_wp2
         go_roundg k2
         case measure => have := HJ1.out; have := HK2.out; omega
         case rel => exact ⟨(false), (rd l0_1 x30_2), (wrap64 (x30_2 + 1)), (by first | rfl | (simp; done) | (simp [*]; done)), (by first | rfl | (simp; done) | (simp [*]; done)), (by first | rfl | (simp; done) | (simp [*]; done)), H', ⟨by have := HJ1.out; have := HK2.out; omega⟩, ⟨by refine upK ?_; exact BK532.out⟩, ⟨upB1 HB.out GE532.out⟩⟩
       ·rw [if_neg c14] at H
        exact absurd H (by simp)
      ·rw [if_neg c13] at H
       exact absurd H (by simp)
     ·rw [if_neg c12] at H
      have c12b0 : decide (x30_2 < (l0_1.length : Int)) = false := decide_eq_false c12
      clear c12
      by_cases c17 : x3_2 = true
      ·subst c17
       have H1 : (some 0) = some r := by rw [if_pos rfl] at H; exact H
       clear H
       have H := H1
       clear H1
       obtain rfl := Option.some.inj H
       go_wp2
       go_ret
       exact ⟨by first | rfl | (simp [errW_none, errW_some] <;> rfl) | (simp [*, errW_none, errW_some] <;> rfl), upB1 HB.out GE532.out⟩
      ·replace c17 := Bool.eq_false_iff.mpr c17
       subst c17
       have H1 : (some 71) = some r := by rw [if_neg (show ¬ (false = true) by decide)] at H; exact H
       clear H
       have H := H1
       clear H1
       obtain rfl := Option.some.inj H
       go_wp2
       go_ret
       exact ⟨by first | rfl | (simp [errW_none, errW_some] <;> rfl) | (simp [*, errW_none, errW_some] <;> rfl), upB1 HB.out GE532.out⟩

end Go.Proofs.Ytbmmddngadnofaa.F
