/- The reference's sum of rows. -/
import Derived.Test.YtbpffhdecbgmpaaCrcLaw
import Derived.Test.YtbpffhdecbgmpaaFx3
namespace Go.Proofs.Ytbpffhdecbgmpaa.Crc
open Go.RowKit Go.Proofs.Ytbpffhdecbgmpaa.F Go.Proofs.YtbpffhdecbgmpaaW.PrintWords Go.Proofs.YtbpffhdecbgmpaaW.PrintLast Go.Proofs.YtbpffhdecbgmpaaW.PrintMore

theorem refAll_from (l : List (List Int)) (hl : l.length ≤ 9223372036854775807) (hb : ∀ b ∈ l, b.length ≤ 9223372036854775807) (d : Nat) : ∀ (i : Nat) (s : BitVec 32), i + d = l.length →
    Ev (fun k => plinthref02_Sum.l0 k l (I s) (i : Int)) (I ((l.drop i).foldl sum s)) := by
  induction d with
  | zero =>
    intro i s h
    refine Ev.step (f := fun _ => some (I ((l.drop i).foldl sum s))) (fun k => ?_) (Ev.now _)
    rw [plinthref02_Sum.l0, if_neg (by omega), List.drop_of_length_le (by omega)]
    rfl
  | succ d ih =>
    intro i s h
    have hi : i < l.length := by omega
    have hm := ref_more (l.getD i []) (by
      apply hb
      simp [hi]) s
    refine Ev.step (f := fun k => (plinthref02_More.f k (I s) (l.getD i [])).bind fun t => plinthref02_Sum.l0 k l t ((i + 1 : Nat) : Int)) (fun k => ?_) ?_
    · rw [plinthref02_Sum.l0, if_pos (by omega), if_pos (by omega), wrap_one i l.length hi hl]
      rfl
    · refine Ev.bind hm ?_
      rw [rdL l i hi, List.foldl_cons]
      exact ih (i + 1) _ (by omega)
theorem refAll (l : List (List Int)) (hl : l.length ≤ 9223372036854775807) (hb : ∀ b ∈ l, b.length ≤ 9223372036854775807) : Ev (fun k => plinthref02_Sum.f k l) (I (sumAll l)) := by
  have h := refAll_from l hl hb l.length 0 0#32 (by omega)
  refine Ev.congr (fun k => ?_) h
  rw [plinthref02_Sum.f]
  rfl
end Go.Proofs.Ytbpffhdecbgmpaa.Crc
