/- CrcSums: the program's sums (crc.Sum, crc.More) are the reference's, for any bytes (at most 16,384 of each row are looked at) and any sum, the sum of nothing is 0, and that of the nine digits is as told. No condition. -/
import Derived.Test.YtbpffhdecbgmpaaCrcLaw
import Derived.Test.YtbpffhdecbgmpaaFx3
import Derived.Test.YtbpffhdecbgmpaaFx4
namespace Go.Proofs.Ytbpffhdecbgmpaa.Pure
open Go.RowKit Go.Proofs.Ytbpffhdecbgmpaa.F Go.Proofs.Ytbpffhdecbgmpaa.Crc Go.Proofs.YtbpffhdecbgmpaaW.PrintWords Go.Proofs.YtbpffhdecbgmpaaW.PrintLast Go.Proofs.YtbpffhdecbgmpaaW.PrintMore

theorem refAll_from (l : List (List Int)) (hl : l.length ≤ 9223372036854775807) (hb : ∀ b ∈ l, b.length ≤ 9223372036854775807) (d : Nat) : ∀ (i : Nat) (s : BitVec 32), i + d = l.length →
    Ev (fun k => plinthref02_Sum.l0 k l (I s) (i : Int)) (I ((l.drop i).foldl sum s)) := by
  induction d with
  | zero =>
    intro i s h
    refine Ev.step (f := fun _ => some (I ((l.drop i).foldl sum s))) (fun k => ?_) (Ev.now _)
    rw [plinthref02_Sum.l0, if_neg (by omega), List.drop_of_length_le (by omega)]
    rfl
  | succ d ih =>
    intro i s h
    have hi : i < l.length := by omega
    have hm := ref_more (l.getD i []) (by
      apply hb
      simp [hi]) s
    refine Ev.step (f := fun k => (plinthref02_More.f k (I s) (l.getD i [])).bind fun t => plinthref02_Sum.l0 k l t ((i + 1 : Nat) : Int)) (fun k => ?_) ?_
    · rw [plinthref02_Sum.l0, if_pos (by omega), if_pos (by omega), wrap_one i l.length hi hl]
      rfl
    · refine Ev.bind hm ?_
      rw [rdL l i hi, List.foldl_cons]
      exact ih (i + 1) _ (by omega)
theorem refAll (l : List (List Int)) (hl : l.length ≤ 9223372036854775807) (hb : ∀ b ∈ l, b.length ≤ 9223372036854775807) : Ev (fun k => plinthref02_Sum.f k l) (I (sumAll l)) := by
  have h := refAll_from l hl hb l.length 0 0#32 (by omega)
  refine Ev.congr (fun k => ?_) h
  rw [plinthref02_Sum.f]
  rfl
theorem CrcSums : plinthlaw02_CrcSums.Pure := by
  intro l0 l1 a2 _ _ _ _ _ _ ha
  obtain ⟨c0, h0, hc0, _⟩ := cut_some l0
  obtain ⟨c1, h1, hc1, _⟩ := cut_some l1
  have hr : 0 ≤ a2 ∧ a2 < 4294967296 := by
    have := bounds_u32 ha
    omega
  have ha2 : I (BitVec.ofInt 32 a2) = a2 := by rw [I_ofInt]; omega
  have hA := all [c0, c1] (by simp) (by simp; omega)
  have hR := refAll [c0, c1] (by simp) (by simp; omega)
  have hM := more c1 (by omega) (BitVec.ofInt 32 a2)
  have hN := ref_more c1 (by omega) (BitVec.ofInt 32 a2)
  rw [ha2] at hM hN
  have hZ := all [] (by simp) (by simp)
  refine Ev.rounds (g := fun k => plinthlaw02_CrcSums.f k l0 l1 a2) ?_
  unfold plinthlaw02_CrcSums.f
  simp only [h0, h1, Option.bind_some]
  refine Ev.bind hA ?_
  refine Ev.bind hR ?_
  simp only [if_true]
  refine Ev.bind hM ?_
  refine Ev.bind hN ?_
  simp only [if_true]
  refine Ev.bind hZ ?_
  have hz : I (sumAll []) = 0 := rfl
  simp only [hz, if_true]
  exact Ev.bind awake (Ev.now _)
end Go.Proofs.Ytbpffhdecbgmpaa.Pure
