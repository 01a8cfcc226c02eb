/- The program's GetText: what it answers. -/
import Derived.Test.YtogjpilkgghidaaOctetsGet
import Derived.Test.YtogjpilkgghidaaOctetsPut
import Derived.Test.YtogjpilkgghidaaFx11
namespace Go.Proofs.Ytogjpilkgghidaa.Octets
open Go.RowKit Go.Proofs.Ytogjpilkgghidaa.F Go.Proofs.Ytogjpilkgghidaa.Bytes Go.Proofs.YtogjpilkgghidaaW.PrintWords Go.Proofs.YtogjpilkgghidaaW.PrintLast Go.Proofs.YtogjpilkgghidaaW.PrintMore

/-- What is got with no error: its number and the place behind it. -/
theorem getOf_ok {b : List Int} {a n : Int} (hb : isByte b) (h : (getOf b a n).2.2 = 0) : 1 ≤ n ∧ n ≤ 8 ∧ 0 ≤ a ∧ a + n ≤ b.length ∧ (getOf b a n).2.1 = a + n ∧ 0 ≤ (getOf b a n).1 ∧ (getOf b a n).1 < 256 ^ n.toNat := by
  unfold getOf at h ⊢
  by_cases hn : n < 1 ∨ 8 < n
  · rw [if_pos hn] at h
    exact absurd h (by decide)
  · rw [if_neg hn] at h ⊢
    by_cases ha : a < 0 ∨ (b.length : Int) < a
    · rw [if_pos ha] at h
      exact absurd h (by decide)
    · rw [if_neg ha] at h ⊢
      by_cases hl : (b.length : Int) - a < n
      · rw [if_pos hl] at h
        exact absurd h (by decide)
      · rw [if_neg hl]
        have hr := val_range (isByte_take n.toNat (isByte_drop a.toNat hb))
        rw [show ((b.drop a.toNat).take n.toNat).length = n.toNat from by rw [List.length_take, List.length_drop]; omega] at hr
        exact ⟨by omega, by omega, by omega, by omega, rfl, hr.1, hr.2⟩
theorem cut_text (b : List Int) (x m : Nat) : (b.take (x + m)).drop x = (b.drop x).take m := by
  rw [List.take_drop]
theorem GetText_ (b : List Int) (a : Int) (hb : isByte b) (hl : b.length ≤ 140737488351232) : Ev (fun k => octets_GetText.f k b a) (getTextOf b a) := by
  have hG := Get_ b a 4 hb (by omega)
  have hok := @getOf_ok b a 4 hb
  unfold octets_GetText.f getTextOf
  refine Ev.bind hG ?_
  generalize getOf b a 4 = g at *
  obtain ⟨n, x, e⟩ := g
  dsimp only at hok ⊢
  by_cases he : e = 0
  · obtain ⟨_, _, ha, hn, hx, h0, h1⟩ := hok he
    simp only [he, if_true, ne_eq, not_true_eq_false, if_false]
    have h1' : n < 4294967296 := h1
    by_cases hbig : n > 16777216
    · simp only [if_pos hbig]
      exact Ev.now _
    · simp only [if_neg hbig]
      have hw : wrap64 ((b.length : Int) - x) = (b.length : Int) - x := wrap_in _ (by omega) (by omega)
      rw [wrap_in n (by omega) (by omega), hw, wrap_in (x + n) (by omega) (by omega)]
      by_cases hs : n > (b.length : Int) - x
      · simp only [if_pos hs]
        exact Ev.now _
      · simp only [if_neg hs]
        rw [if_pos (by omega), if_pos (by omega), if_pos (by omega), show (x + n).toNat = x.toNat + n.toNat by omega, cut_text, clone_ _ (by rw [List.length_take]; omega)]
        exact Ev.now _
  · simp only [he, if_false, ne_eq, not_false_eq_true, if_true]
    exact Ev.now _
end Go.Proofs.Ytogjpilkgghidaa.Octets
