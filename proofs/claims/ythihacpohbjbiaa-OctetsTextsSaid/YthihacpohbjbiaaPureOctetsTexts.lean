/- OctetsTexts: the bytes of any text behind any bytes (at most 65,536 of each are looked at), and the text at any place of them, with their errors, are the reference's. No condition. -/
import Derived.Test.YthihacpohbjbiaaPureOctets
import Derived.Test.YthihacpohbjbiaaOctetsRefText
import Derived.Test.YthihacpohbjbiaaFx10
import Derived.Test.YthihacpohbjbiaaFx11
namespace Go.Proofs.Ythihacpohbjbiaa.Pure
open Go.RowKit Go.Proofs.Ythihacpohbjbiaa.F Go.Proofs.Ythihacpohbjbiaa.Octets Go.Proofs.Ythihacpohbjbiaa.Bytes Go.Proofs.YthihacpohbjbiaaW.PrintWords Go.Proofs.YthihacpohbjbiaaW.PrintLast Go.Proofs.YthihacpohbjbiaaW.PrintMore

theorem ref_GetText (b : List Int) (a : Int) (hb : isByte b) (hl : b.length ≤ 140737488351232) : Ev (fun k => plinthref01_GetText.f k b a) (getTextOf b a) := by
  have hG := ref_Get b a 4 hb (by omega)
  have hok := @getOf_ok b a 4 hb
  unfold plinthref01_GetText.f getTextOf
  refine Ev.bind hG ?_
  generalize getOf b a 4 = g at *
  obtain ⟨n, x, e⟩ := g
  dsimp only at hok ⊢
  by_cases he : e = 0
  · obtain ⟨_, _, ha, hn, hx, h0, h1⟩ := hok he
    simp only [he, if_true, ne_eq, not_true_eq_false, if_false]
    have h1' : n < 4294967296 := h1
    by_cases hbig : n > 16777216
    · simp only [if_pos hbig]
      exact Ev.now _
    · simp only [if_neg hbig]
      have hw : wrap64 ((b.length : Int) - x) = (b.length : Int) - x := wrap_in _ (by omega) (by omega)
      rw [wrap_in n (by omega) (by omega), hw, wrap_in (x + n) (by omega) (by omega)]
      by_cases hs : (b.length : Int) - x < n
      · simp only [if_pos hs]
        exact Ev.now _
      · simp only [if_neg hs, Option.bind_some, List.nil_append, List.length_nil]
        rw [if_pos (by omega), if_pos (by omega), if_pos (by omega), show (x + n).toNat = x.toNat + n.toNat by omega, cut_text, if_pos (by rw [List.length_take]; omega)]
        exact Ev.now _
  · simp only [he, if_false, ne_eq, not_false_eq_true, if_true]
    exact Ev.now _
theorem OctetsTexts : plinthlaw01_OctetsTexts.Pure := by
  intro l0 l1 a2 _ _ hb _ _ hb1 _
  obtain ⟨c, hc, hl, he⟩ := cut_some l0
  obtain ⟨s, hs, hsl, hse⟩ := cut_some l1
  have hbc : isByte c := by rw [he]; exact isByte_take _ (isByte_of hb)
  refine Ev.rounds (g := fun k => plinthlaw01_OctetsTexts.f k l0 l1 a2) ?_
  unfold plinthlaw01_OctetsTexts.f
  simp only [hc, hs, Option.bind_some]
  refine Ev.bind (PutText_ c s (by omega)) ?_
  refine Ev.bind (ref_PutText c s (by omega) (by omega)) ?_
  refine Ev.bind (GetText_ c a2 hbc (by omega)) ?_
  refine Ev.bind (ref_GetText c a2 hbc (by omega)) ?_
  simp only [if_true]
  exact Ev.bind awake (Ev.now _)
end Go.Proofs.Ythihacpohbjbiaa.Pure
