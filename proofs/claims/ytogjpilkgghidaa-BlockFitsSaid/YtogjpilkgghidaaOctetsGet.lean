/- The program's Get: what it answers. -/
import Derived.Test.YtogjpilkgghidaaOctets
import Derived.Test.YtogjpilkgghidaaFx7
import Derived.Test.YtogjpilkgghidaaFx10
namespace Go.Proofs.Ytogjpilkgghidaa.Octets
open Go.RowKit Go.Proofs.Ytogjpilkgghidaa.F Go.Proofs.Ytogjpilkgghidaa.Bytes Go.Proofs.YtogjpilkgghidaaW.PrintWords Go.Proofs.YtogjpilkgghidaaW.PrintLast Go.Proofs.YtogjpilkgghidaaW.PrintMore

theorem sizedG_ (n : Int) : octets_sized.f n = some (decide (1 ≤ n ∧ n ≤ 8)) := by
  unfold octets_sized.f
  by_cases h : n ≥ 1
  · rw [if_pos h]
    simp [h]
  · rw [if_neg h]
    simp [h]
theorem get_from (a n : Int) (y : List Int) (hy : isByte y) (hl : y.length ≤ 8) (d : Nat) : ∀ i : Nat, i + d = y.length →
    Ev (fun k => octets_Get.l0 k a n (val (y.take i)) y (y.length : Int) (i : Int)) (val y, wrap64 (a + n), 0) := by
  induction d with
  | zero =>
    intro i h
    refine Ev.step (f := fun _ => some (val y, wrap64 (a + n), 0)) (fun k => ?_) (Ev.now _)
    rw [octets_Get.l0, if_neg (by omega), List.take_of_length_le (by omega)]
  | succ d ih =>
    intro i h
    have hi : i < y.length := by omega
    have hc := rd_byte hy i hi
    have hr := val_range (isByte_take i hy)
    rw [List.length_take, Nat.min_eq_left (by omega)] at hr
    refine Ev.step (f := fun k => octets_Get.l0 k a n (val (y.take (i + 1))) y (y.length : Int) ((i + 1 : Nat) : Int)) (fun k => ?_) (ih (i + 1) (by omega))
    rw [octets_Get.l0, if_pos (by omega), if_pos (by omega), if_pos (by omega), eight i (by omega), if_pos (by omega), shl_eight _ i (by omega) hc, or_add _ _ i (by omega) hr.1 hr.2 hc, wrap_next i y.length hi (by omega),
      take_rd y i hi, val_append, List.length_take, Nat.min_eq_left (by omega), val, val]
    simp
theorem Get_ (b : List Int) (a n : Int) (hb : isByte b) (hl : b.length ≤ 140737488355328) : Ev (fun k => octets_Get.f k b a n) (getOf b a n) := by
  unfold octets_Get.f getOf
  rw [sizedG_]
  simp only [Option.bind_some]
  by_cases hn : n < 1 ∨ 8 < n
  · rw [if_pos hn, decide_eq_false (by omega)]
    exact Ev.now _
  · rw [if_neg hn, decide_eq_true (by omega)]
    simp only [if_true]
    by_cases h0 : a < 0
    · rw [if_pos (by omega)]
      refine Ev.congr (f := fun k => octets_Get.j0 k b a n true) (fun k => by rw [if_pos h0]) ?_
      refine Ev.step (f := fun _ => some (0, 0, 5)) (fun k => ?_) (Ev.now _)
      rw [octets_Get.j0, if_pos rfl]
    · refine Ev.congr (f := fun k => octets_Get.j0 k b a n (decide (a > (b.length : Int)))) (fun k => by rw [if_neg h0]) ?_
      by_cases h1 : a > (b.length : Int)
      · rw [if_pos (by omega), decide_eq_true h1]
        refine Ev.step (f := fun _ => some (0, 0, 5)) (fun k => ?_) (Ev.now _)
        rw [octets_Get.j0, if_pos rfl]
      · rw [if_neg (by omega), decide_eq_false h1]
        have hw : wrap64 ((b.length : Int) - a) = (b.length : Int) - a := wrap_in _ (by omega) (by omega)
        by_cases h2 : n > (b.length : Int) - a
        · rw [if_pos (by omega)]
          refine Ev.step (f := fun _ => some (0, 0, 10)) (fun k => ?_) (Ev.now _)
          rw [octets_Get.j0, if_neg (by decide), hw, if_pos h2]
        · rw [if_neg (by omega)]
          have hs : wrap64 (a + n) = a + n := wrap_in _ (by omega) (by omega)
          have hy : (b.take (a + n).toNat).drop a.toNat = (b.drop a.toNat).take n.toNat := by
            rw [List.take_drop]
            congr 2
            omega
          have hyl : ((b.drop a.toNat).take n.toNat).length ≤ 8 := by rw [List.length_take]; omega
          have h := get_from a n ((b.drop a.toNat).take n.toNat) (isByte_take _ (isByte_drop _ hb)) hyl (((b.drop a.toNat).take n.toNat).length) 0 (by omega)
          refine Ev.step (f := fun k => octets_Get.l0 k a n (val (((b.drop a.toNat).take n.toNat).take 0)) ((b.drop a.toNat).take n.toNat) (((b.drop a.toNat).take n.toNat).length : Int) ((0 : Nat) : Int)) (fun k => ?_) (hs ▸ h)
          rw [octets_Get.j0, if_neg (by decide), hw, if_neg h2, if_pos (by omega), hs, if_pos (by omega), if_pos (by omega), Option.bind_some, hy]
          rfl
end Go.Proofs.Ytogjpilkgghidaa.Octets
