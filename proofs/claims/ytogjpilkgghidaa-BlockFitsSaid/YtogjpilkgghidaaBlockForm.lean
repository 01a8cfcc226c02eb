/- Shapes, requests, results in plain words: which may be. -/
import Derived.Test.YtogjpilkgghidaaOctets
import Derived.Test.YtogjpilkgghidaaFx1
import Derived.Test.YtogjpilkgghidaaFx4
import Derived.Test.YtogjpilkgghidaaFx2
import Derived.Test.YtogjpilkgghidaaFx5
import Derived.Test.YtogjpilkgghidaaFx23
import Derived.Test.YtogjpilkgghidaaFx24
namespace Go.Proofs.Ytogjpilkgghidaa.Block
open Go.RowKit Go.Proofs.Ytogjpilkgghidaa.F Go.Proofs.Ytogjpilkgghidaa.Octets Go.Proofs.YtogjpilkgghidaaW.PrintWords Go.Proofs.YtogjpilkgghidaaW.PrintLast Go.Proofs.YtogjpilkgghidaaW.PrintMore

def okForm (kind at_ n : Int) (data old : List Int) : Prop := 0 ≤ at_ ∧ at_ ≤ 2147483647 ∧ 0 ≤ n ∧ n ≤ 2147483647 ∧ data.length ≤ 262144 ∧ old.length ≤ 4096 ∧
  ((kind = 1 ∨ kind = 3) ∧ data.length = 0 ∧ old.length = 0 ∨ kind = 2 ∧ old.length = 0 ∨ kind = 5 ∧ n = 0 ∨ kind = 4 ∧ at_ = 0 ∧ n = 0 ∧ data.length = 0 ∧ old.length = 0)
instance (kind at_ n : Int) (data old : List Int) : Decidable (okForm kind at_ n data old) := by unfold okForm; infer_instance
def formOf (kind at_ n : Int) (data old : List Int) : Int := if okForm kind at_ n data old then 0 else 41
theorem bare_ (kind at_ n : Int) (data old : List Int) : block_bare.f kind at_ n data old = some (decide ((kind = 1 ∨ kind = 3) ∧ data.length = 0 ∧ old.length = 0 ∨ kind = 2 ∧ old.length = 0 ∨ kind = 5 ∧ n = 0 ∨ kind = 4 ∧ at_ = 0 ∧ n = 0 ∧ data.length = 0 ∧ old.length = 0)) := by
  unfold block_bare.f
  repeat' split
  all_goals (refine congrArg some ?_; rw [Bool.eq_iff_iff]; simp only [beq_iff_eq, decide_eq_true_eq, Bool.false_eq_true, false_iff]; omega)
theorem Form_ (kind at_ n : Int) (data old : List Int) : block_Form.f kind at_ n data old = some (formOf kind at_ n data old) := by
  unfold block_Form.f formOf
  have h1 : (mn at_ n < 0) ↔ (at_ < 0 ∨ n < 0) := by
    unfold mn
    split <;> omega
  have h2 : (mx at_ n > 2147483647) ↔ (at_ > 2147483647 ∨ n > 2147483647) := by
    unfold mx
    split <;> omega
  rw [bare_]
  simp only [Option.bind_some, decide_eq_true_eq, h1, h2]
  clear h1 h2
  by_cases hok : okForm kind at_ n data old
  · rw [if_pos hok]
    unfold okForm at hok
    repeat' split
    all_goals first | rfl | (exfalso; omega)
  · rw [if_neg hok]
    unfold okForm at hok
    repeat' split
    all_goals first | rfl | (exfalso; omega)
theorem ref_Form (kind at_ n : Int) (data old : List Int) (hd : data.length ≤ 140737488355328) (ho : old.length ≤ 140737488355328) : Ev (fun k => plinthref04_Form.f k kind at_ n data old) (formOf kind at_ n data old) := by
  have hT : ¬ okForm kind at_ n data old → Ev (fun k => plinthref04_Form.j0 k true kind at_ n data old) (formOf kind at_ n data old) := by
    intro h
    refine Ev.step (fun k => plinthref04_Form.j0.eq_2 _ _ _ _ _ _ k) ?_
    simp only [if_true, formOf, if_neg h]
    exact Ev.now _
  have hw : wrap64 ((data.length : Int) + (old.length : Int)) = (data.length : Int) + (old.length : Int) := wrap_in _ (by omega) (by omega)
  unfold plinthref04_Form.f
  by_cases c1 : at_ < 0
  · simp only [if_pos c1]
    exact hT (by unfold okForm; omega)
  simp only [if_neg c1]
  by_cases c2 : at_ > 2147483647
  · simp only [if_pos c2]
    exact hT (by unfold okForm; omega)
  simp only [if_neg c2]
  by_cases c3 : n < 0
  · simp only [if_pos c3]
    exact hT (by unfold okForm; omega)
  simp only [if_neg c3]
  by_cases c4 : n > 2147483647
  · simp only [if_pos c4]
    exact hT (by unfold okForm; omega)
  simp only [if_neg c4]
  by_cases c5 : (data.length : Int) > 262144
  · simp only [if_pos c5]
    exact hT (by unfold okForm; omega)
  simp only [if_neg c5]
  by_cases c6 : (old.length : Int) > 4096
  · simp only [decide_eq_true c6]
    exact hT (by unfold okForm; omega)
  simp only [decide_eq_false c6]
  refine Ev.step (fun k => plinthref04_Form.j0.eq_2 _ _ _ _ _ _ k) ?_
  simp only [Bool.false_eq_true, if_false]
  have key : ∀ b : Bool, (b = true ↔ kind = 1 ∨ kind = 3) → Ev (fun k => plinthref04_Form.j1 k kind b kind at_ n data old) (formOf kind at_ n data old) := by
    intro b hb
    refine Ev.step (fun k => plinthref04_Form.j1.eq_2 _ _ _ _ _ _ _ k) ?_
    simp only [hw]
    refine Ev.congr (f := fun _ => some (formOf kind at_ n data old)) (fun k => ?_) (Ev.now _)
    unfold formOf
    by_cases hok : okForm kind at_ n data old <;> by_cases hk : b = true
    · have hk2 := hb.1 hk
      simp only [if_pos hk, if_pos hok]
      unfold okForm at hok
      repeat' split
      all_goals first | rfl | (exfalso; omega)
    · have hk2 : ¬ (kind = 1 ∨ kind = 3) := fun h => hk (hb.2 h)
      simp only [if_neg hk, if_pos hok]
      unfold okForm at hok
      repeat' split
      all_goals first | rfl | (exfalso; omega)
    · have hk2 := hb.1 hk
      simp only [if_pos hk, if_neg hok]
      unfold okForm at hok
      repeat' split
      all_goals first | rfl | (exfalso; omega)
    · have hk2 : ¬ (kind = 1 ∨ kind = 3) := fun h => hk (hb.2 h)
      simp only [if_neg hk, if_neg hok]
      unfold okForm at hok
      repeat' split
      all_goals first | rfl | (exfalso; omega)
  by_cases c7 : kind = 1
  · simp only [if_pos c7]
    exact key _ (by simp [c7])
  · simp only [if_neg c7]
    exact key _ (by simp; omega)
theorem same_shape (a b : Int) : plinthref04_Shape.f a b = block_Shape.f a b := rfl
def okResult (code : Int) (data : List Int) : Prop := (code = 1 ∨ code = 4) ∧ data.length ≤ 262144 ∨ (code = 2 ∨ code = 3) ∧ data.length = 0
instance (code : Int) (data : List Int) : Decidable (okResult code data) := by unfold okResult; infer_instance
def resultOf (code : Int) (data : List Int) : Int := if okResult code data then 0 else 42
theorem Result_ (code : Int) (data : List Int) : Ev (fun k => block_Result.f k code data) (resultOf code data) := by
  have key : ∀ b : Bool, (b = true ↔ code = 1 ∨ code = 4) → Ev (fun k => block_Result.j0 k false code b code data) (resultOf code data) := by
    intro b hb
    refine Ev.step (fun k => block_Result.j0.eq_2 _ _ _ _ _ k) ?_
    by_cases hk : b = true
    · have hk2 := hb.1 hk
      simp only [if_pos hk]
      refine Ev.congr (f := fun _ => some (resultOf code data)) (fun k => ?_) (Ev.now _)
      unfold resultOf
      by_cases hok : okResult code data
      · rw [if_pos hok]
        unfold okResult at hok
        repeat' split
        all_goals first | rfl | (exfalso; omega)
      · rw [if_neg hok]
        unfold okResult at hok
        repeat' split
        all_goals first | rfl | (exfalso; omega)
    · have hk2 : ¬ (code = 1 ∨ code = 4) := fun h => hk (hb.2 h)
      simp only [if_neg hk]
      have key2 : ∀ c : Bool, (c = true ↔ code = 2 ∨ code = 3) → Ev (fun k => block_Result.j1 k false c code data) (resultOf code data) := by
        intro c hc
        refine Ev.step (fun k => block_Result.j1.eq_2 _ _ _ _ k) ?_
        refine Ev.congr (f := fun _ => some (resultOf code data)) (fun k => ?_) (Ev.now _)
        unfold resultOf
        by_cases hok : okResult code data <;> by_cases hk3 : c = true
        · have hk4 := hc.1 hk3
          simp only [if_pos hk3, if_pos hok]
          unfold okResult at hok
          repeat' split
          all_goals first | rfl | (exfalso; omega)
        · have hk4 : ¬ (code = 2 ∨ code = 3) := fun h => hk3 (hc.2 h)
          unfold okResult at hok
          exfalso
          omega
        · have hk4 := hc.1 hk3
          simp only [if_pos hk3, if_neg hok]
          unfold okResult at hok
          repeat' split
          all_goals first | rfl | (exfalso; omega)
        · simp only [if_neg hk3, if_neg hok, Bool.false_eq_true, if_false]
      by_cases c2 : code = 2
      · simp only [if_pos c2]
        exact key2 _ (by simp [c2])
      · simp only [if_neg c2]
        exact key2 _ (by simp; omega)
  unfold block_Result.f
  by_cases c1 : code = 1
  · simp only [if_pos c1]
    exact key _ (by simp [c1])
  · simp only [if_neg c1]
    exact key _ (by simp; omega)
theorem ref_Result (code : Int) (data : List Int) : Ev (fun k => plinthref04_Result.f k code data) (resultOf code data) := by
  have key : ∀ b : Bool, (b = true ↔ code < 1 ∨ 4 < code ∨ 262144 < data.length) → Ev (fun k => plinthref04_Result.j0 k b code data) (resultOf code data) := by
    intro b hb
    refine Ev.step (fun k => plinthref04_Result.j0.eq_2 _ _ _ k) ?_
    refine Ev.congr (f := fun _ => some (resultOf code data)) (fun k => ?_) (Ev.now _)
    unfold resultOf
    by_cases hok : okResult code data <;> by_cases hk : b = true
    · have hk2 := hb.1 hk
      unfold okResult at hok
      exfalso
      omega
    · have hk2 : ¬ (code < 1 ∨ 4 < code ∨ 262144 < data.length) := fun h => hk (hb.2 h)
      simp only [if_neg hk, if_pos hok]
      unfold okResult at hok
      repeat' split
      all_goals first | rfl | (exfalso; omega)
    · simp only [if_pos hk, if_neg hok]
    · have hk2 : ¬ (code < 1 ∨ 4 < code ∨ 262144 < data.length) := fun h => hk (hb.2 h)
      simp only [if_neg hk, if_neg hok]
      unfold okResult at hok
      repeat' split
      all_goals first | rfl | (exfalso; omega)
  unfold plinthref04_Result.f
  by_cases c1 : code < 1
  · simp only [if_pos c1]
    exact key _ (by simp [c1])
  · simp only [if_neg c1]
    by_cases c2 : code > 4
    · simp only [if_pos c2]
      exact key _ (by simp; omega)
    · simp only [if_neg c2]
      exact key _ (by simp; omega)
end Go.Proofs.Ytogjpilkgghidaa.Block
