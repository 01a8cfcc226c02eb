/- OctetsBounds: a place behind what is got out of any bytes (at most 65,536 are looked at) is one of the bytes, or their end; with an error it is 0. No condition. -/
import Derived.Test.YthihacpohbjbiaaPureOctets
import Derived.Test.YthihacpohbjbiaaFx12
namespace Go.Proofs.Ythihacpohbjbiaa.Pure
open Go.RowKit Go.Proofs.Ythihacpohbjbiaa.F Go.Proofs.Ythihacpohbjbiaa.Octets Go.Proofs.Ythihacpohbjbiaa.Bytes Go.Proofs.YthihacpohbjbiaaW.PrintWords Go.Proofs.YthihacpohbjbiaaW.PrintLast Go.Proofs.YthihacpohbjbiaaW.PrintMore

theorem getOf_bad (b : List Int) (a n : Int) (h : (getOf b a n).2.2 ≠ 0) : (getOf b a n).2.1 = 0 := by
  unfold getOf at h ⊢
  split
  · rfl
  · rename_i h1
    rw [if_neg h1] at h
    split
    · rfl
    · rename_i h2
      rw [if_neg h2] at h
      split
      · rfl
      · rename_i h3
        rw [if_neg h3] at h
        exact absurd rfl h
theorem text_bounds (b : List Int) (a : Int) (hb : isByte b) : ((getTextOf b a).2.2 = 0 → 0 ≤ a ∧ 4 ≤ (getTextOf b a).2.1 - a ∧ (getTextOf b a).2.1 ≤ b.length) ∧ ((getTextOf b a).2.2 ≠ 0 → (getTextOf b a).2.1 = 0) := by
  have hok := @getOf_ok b a 4 hb
  unfold getTextOf
  generalize getOf b a 4 = g at *
  obtain ⟨n, x, e⟩ := g
  dsimp only at hok ⊢
  by_cases he : e = 0
  · obtain ⟨_, _, ha, hn, hx, h0, h1⟩ := hok he
    simp only [he, ne_eq, not_true_eq_false, if_false]
    by_cases hbig : 16777216 < n
    · simp [if_pos hbig]
    · simp only [if_neg hbig]
      by_cases hs : (b.length : Int) - x < n
      · simp [if_pos hs]
      · simp only [if_neg hs]
        exact ⟨fun _ => ⟨ha, by omega, by omega⟩, fun h => absurd trivial h⟩
  · simp [he]
theorem OctetsBounds : plinthlaw01_OctetsBounds.Pure := by
  intro l0 a1 a2 _ _ hb h1 h2
  obtain ⟨c, hc, hl, he⟩ := cut_some l0
  have hbc : isByte c := by rw [he]; exact isByte_take _ (isByte_of hb)
  have r1 := bounds_i64 h1
  have r2 := bounds_i64 h2
  have hok := @getOf_ok c a1 a2 hbc
  have hbad := getOf_bad c a1 a2
  have ht := text_bounds c a1 hbc
  refine Ev.rounds (g := fun k => plinthlaw01_OctetsBounds.f k l0 a1 a2) ?_
  unfold plinthlaw01_OctetsBounds.f
  refine Ev.bind awake ?_
  simp only [if_true, hc, Option.bind_some]
  refine Ev.bind (Get_ c a1 a2 hbc (by omega)) ?_
  refine Ev.bind (GetText_ c a1 hbc (by omega)) ?_
  generalize getOf c a1 a2 = g at *
  generalize getTextOf c a1 = t at *
  obtain ⟨n, x, e⟩ := g
  obtain ⟨s, y, f⟩ := t
  dsimp only at *
  have hend : (if f = 0 then if wrap64 (y - a1) ≥ 4 then if y ≤ (c.length : Int) then some true else some false else some false else some (y == 0)) = some true := by
    by_cases hf : f = 0
    · obtain ⟨t1, t2, t3⟩ := ht.1 hf
      rw [if_pos hf, wrap_in (y - a1) (by omega) (by omega), if_pos (by omega), if_pos (by omega)]
    · rw [if_neg hf, ht.2 hf]
      rfl
  rw [hend]
  by_cases he : e = 0
  · obtain ⟨_, _, ha, hn, hx, _, _⟩ := hok he
    rw [if_pos he, wrap_in (x - a2) (by omega) (by omega), if_pos (by omega), if_neg (by omega)]
    exact Ev.now _
  · rw [if_neg he, if_pos (hbad he)]
    exact Ev.now _
end Go.Proofs.Ythihacpohbjbiaa.Pure
