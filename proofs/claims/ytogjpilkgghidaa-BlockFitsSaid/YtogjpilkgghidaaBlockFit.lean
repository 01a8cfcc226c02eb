/- Which requests fit which shapes: program and reference answer alike. -/
import Derived.Test.YtogjpilkgghidaaBlockForm
import Derived.Test.YtogjpilkgghidaaFx2
import Derived.Test.YtogjpilkgghidaaFx4
import Derived.Test.YtogjpilkgghidaaFx3
import Derived.Test.YtogjpilkgghidaaFx6
namespace Go.Proofs.Ytogjpilkgghidaa.Block
open Go.RowKit Go.Proofs.Ytogjpilkgghidaa.F Go.Proofs.Ytogjpilkgghidaa.Octets Go.Proofs.YtogjpilkgghidaaW.PrintWords Go.Proofs.YtogjpilkgghidaaW.PrintLast Go.Proofs.YtogjpilkgghidaaW.PrintMore

def okShape (B S : Int) : Prop := 1 ≤ B ∧ B ≤ 4096 ∧ 1 ≤ S ∧ S ≤ 4096
instance (B S : Int) : Decidable (okShape B S) := by unfold okShape; infer_instance
def fitOf (B S kind at_ n : Int) (data old : List Int) : Int × Int :=
  if ¬ okShape B S then (0, 40) else if ¬ okForm kind at_ n data old then (0, 41) else if kind = 4 then (1, 0)
  else if kind = 5 then (if at_ ≥ B then (2, 0) else if (data.length : Int) = S ∧ (old.length : Int) = S then (1, 0) else (3, 0))
  else if n < 1 ∨ n > 64 ∨ at_ > B - n then (2, 0) else if kind = 2 ∧ (data.length : Int) ≠ n * S then (3, 0) else (1, 0)
theorem Shape_ (B S : Int) : block_Shape.f B S = some (if okShape B S then 0 else 40) := by
  unfold block_Shape.f
  by_cases h : okShape B S
  · rw [if_pos h]
    unfold okShape at h
    repeat' split
    all_goals first | rfl | (exfalso; omega)
  · rw [if_neg h]
    unfold okShape at h
    repeat' split
    all_goals first | rfl | (exfalso; omega)
theorem Changes_ (kind at_ n : Int) (data old : List Int) : block_Changes.f kind at_ n data old = some (decide (kind = 2 ∨ kind = 3 ∨ kind = 5)) := by
  unfold block_Changes.f
  repeat' split
  all_goals (refine congrArg some ?_; simp; try omega)
theorem area {n S : Int} (h : 1 ≤ n ∧ n ≤ 64) (hs : 1 ≤ S ∧ S ≤ 4096) : wrap64 (n * S) = n * S := by
  have h1 : n * S ≤ 64 * 4096 := Int.mul_le_mul h.2 hs.2 (by omega) (by omega)
  have h2 : 0 ≤ n * S := Int.mul_nonneg (by omega) (by omega)
  exact wrap_in _ (by omega) (by omega)
theorem Fit_ (B S kind at_ n : Int) (data old : List Int) : Ev (fun k => block_Fit.f k B S kind at_ n data old) (fitOf B S kind at_ n data old) := by
  unfold block_Fit.f fitOf
  rw [Shape_, Form_]
  by_cases h1 : okShape B S
  · by_cases h2 : okForm kind at_ n data old
    · have e2 : formOf kind at_ n data old = 0 := by unfold formOf; rw [if_pos h2]
      have s := h1
      have f := h2
      unfold okShape at s
      unfold okForm at f
      simp only [e2, if_pos h1, if_neg (not_not_intro h1), if_neg (not_not_intro h2), if_true, Option.bind_some]
      by_cases c4 : kind = 4
      · simp only [if_pos c4]
        exact Ev.now _
      simp only [if_neg c4]
      have hw : ∀ m : Int, 1 ≤ m → m ≤ 64 → wrap64 (B - m) = B - m := fun m _ _ => wrap_in _ (by omega) (by omega)
      by_cases c5 : kind = 5
      · simp only [if_pos c5]
        refine Ev.step (fun k => block_Fit.j0.eq_2 _ _ _ _ _ _ _ _ k) ?_
        simp only [if_neg (show ¬ (1 : Int) < 1 by omega), if_neg (show ¬ (1 : Int) > 64 by omega), hw 1 (by omega) (by omega)]
        refine Ev.step (fun k => block_Fit.j1.eq_2 _ _ _ _ _ _ _ _ _ k) ?_
        have hS : wrap64 (1 * S) = S := by rw [area (by omega) (by omega), Int.one_mul]
        refine Ev.congr (f := fun _ => some _) (fun k => ?_) (Ev.now _)
        rw [Changes_, hS]
        by_cases ca : at_ ≥ B
        · rw [if_pos ca, if_pos (by simp; omega)]
        · rw [if_neg ca, if_neg (by simp; omega)]
          simp only [Option.bind_some, c5, decide_eq_true_eq]
          rw [if_pos (by decide), if_neg (by decide)]
          by_cases cd : (data.length : Int) = S <;> by_cases co : (old.length : Int) = S <;> simp [cd, co]
      · simp only [if_neg c5]
        have hj1 : 1 ≤ n → n ≤ 64 → ∀ b : Bool, (b = true ↔ at_ > B - n) → Ev (fun k => block_Fit.j1 k n b B S kind at_ n data old) (if n < 1 ∨ n > 64 ∨ at_ > B - n then (2, 0) else if kind = 2 ∧ (data.length : Int) ≠ n * S then (3, 0) else (1, 0)) := by
          intro n1 n2 b hb
          refine Ev.step (fun k => block_Fit.j1.eq_2 _ _ _ _ _ _ _ _ _ k) ?_
          refine Ev.congr (f := fun _ => some _) (fun k => ?_) (Ev.now _)
          rw [Changes_, area ⟨n1, n2⟩ (by omega)]
          by_cases hbt : b = true
          · rw [if_pos hbt, if_pos (.inr (.inr (hb.1 hbt)))]
          · have hnb : ¬ at_ > B - n := fun h => hbt (hb.2 h)
            rw [if_neg hbt, if_neg (show ¬ (n < 1 ∨ n > 64 ∨ at_ > B - n) by omega)]
            simp only [Option.bind_some, decide_eq_true_eq, if_neg c5]
            by_cases k2 : kind = 2
            · by_cases kd : (data.length : Int) = n * S
              · simp [k2, kd]
              · simp [k2, kd]
            · by_cases k3 : kind = 3
              · simp [k3]
              · simp [k2, k3, c5]
        refine Ev.step (fun k => block_Fit.j0.eq_2 _ _ _ _ _ _ _ _ k) ?_
        by_cases n1 : n < 1
        · simp only [if_pos n1]
          refine Ev.step (fun k => block_Fit.j1.eq_2 _ _ _ _ _ _ _ _ _ k) ?_
          simp only [if_true, if_pos (show n < 1 ∨ n > 64 ∨ at_ > B - n from .inl n1)]
          exact Ev.now _
        · simp only [if_neg n1]
          by_cases n2 : n > 64
          · simp only [if_pos n2]
            refine Ev.step (fun k => block_Fit.j1.eq_2 _ _ _ _ _ _ _ _ _ k) ?_
            simp only [if_true, if_pos (show n < 1 ∨ n > 64 ∨ at_ > B - n from .inr (.inl n2))]
            exact Ev.now _
          · simp only [if_neg n2, hw n (by omega) (by omega)]
            exact hj1 (by omega) (by omega) _ (by simp)
    · have e2 : formOf kind at_ n data old = 41 := by unfold formOf; rw [if_neg h2]
      simp only [e2, if_pos h1, if_neg (not_not_intro h1), if_pos h2, if_true, Option.bind_some]
      exact Ev.now _
  · simp only [if_neg h1, if_pos h1, Option.bind_some]
    exact Ev.now _
theorem ref_Fit (B S kind at_ n : Int) (data old : List Int) (hd : data.length ≤ 140737488355328) (ho : old.length ≤ 140737488355328) : Ev (fun k => plinthref04_Fit.f k B S kind at_ n data old) (fitOf B S kind at_ n data old) := by
  have hF := ref_Form kind at_ n data old hd ho
  unfold plinthref04_Fit.f fitOf
  simp only [same_shape, Shape_, Option.bind_some]
  by_cases h1 : okShape B S
  · simp only [if_pos h1, if_neg (not_not_intro h1), if_true]
    refine Ev.bind hF ?_
    refine Ev.step (fun k => plinthref04_Fit.j0.eq_2 _ _ _ _ _ _ _ _ k) ?_
    by_cases h2 : okForm kind at_ n data old
    · have e2 : formOf kind at_ n data old = 0 := by unfold formOf; rw [if_pos h2]
      have s := h1
      have f := h2
      unfold okShape at s
      unfold okForm at f
      simp only [e2, if_neg (not_not_intro h2), if_true]
      by_cases c4 : kind = 4
      · simp only [if_pos c4]
        exact Ev.now _
      simp only [if_neg c4]
      by_cases c5 : kind = 5
      · simp only [if_pos c5]
        refine Ev.congr (f := fun _ => some _) (fun k => ?_) (Ev.now _)
        by_cases ca : at_ ≥ B
        · rw [if_pos ca, if_pos ca]
        · rw [if_neg ca, if_neg ca]
          by_cases cd : (data.length : Int) = S <;> by_cases co : (old.length : Int) = S <;> simp [cd, co]
      · simp only [if_neg c5]
        have hj1 : ∀ b : Bool, (b = true ↔ n < 1 ∨ n > 64 ∨ at_ > B - n) → Ev (fun k => plinthref04_Fit.j1 k b B S kind at_ n data old) (if n < 1 ∨ n > 64 ∨ at_ > B - n then (2, 0) else if kind = 2 ∧ (data.length : Int) ≠ n * S then (3, 0) else (1, 0)) := by
          intro b hb
          refine Ev.step (fun k => plinthref04_Fit.j1.eq_2 _ _ _ _ _ _ _ _ k) ?_
          refine Ev.congr (f := fun _ => some _) (fun k => ?_) (Ev.now _)
          by_cases hbt : b = true
          · rw [if_pos hbt, if_pos (hb.1 hbt)]
          · have hnb : ¬ (n < 1 ∨ n > 64 ∨ at_ > B - n) := fun h => hbt (hb.2 h)
            rw [if_neg hbt, if_neg hnb, area (by omega) (by omega)]
            by_cases k2 : kind = 2
            · by_cases kd : (data.length : Int) = n * S <;> simp [k2, kd]
            · simp [k2]
        by_cases n1 : n < 1
        · simp only [if_pos n1]
          exact hj1 true (by simp [n1])
        · simp only [if_neg n1]
          by_cases n2 : n > 64
          · simp only [if_pos n2]
            exact hj1 true (by simp; omega)
          · have hw : wrap64 (B - n) = B - n := wrap_in _ (by omega) (by omega)
            simp only [if_neg n2, hw]
            exact hj1 _ (by simp; omega)
    · have e2 : formOf kind at_ n data old = 41 := by unfold formOf; rw [if_neg h2]
      simp only [e2, if_pos h2]
      exact Ev.now _
  · simp only [if_neg h1, if_pos h1, if_neg (show ¬ (40 : Int) = 0 by decide)]
    refine Ev.step (fun k => plinthref04_Fit.j0.eq_2 _ _ _ _ _ _ _ _ k) ?_
    simp only [if_neg (show ¬ (40 : Int) = 0 by decide)]
    exact Ev.now _
end Go.Proofs.Ytogjpilkgghidaa.Block
