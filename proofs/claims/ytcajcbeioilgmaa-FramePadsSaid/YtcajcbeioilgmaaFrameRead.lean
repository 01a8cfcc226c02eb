/- The program's Read: what it answers. -/
import Derived.Test.YtcajcbeioilgmaaFrame
import Derived.Test.YtcajcbeioilgmaaOctetsGet
import Derived.Test.YtcajcbeioilgmaaFx7
namespace Go.Proofs.Ytcajcbeioilgmaa.Frame
open Go.RowKit Go.Proofs.Ytcajcbeioilgmaa.F Go.Proofs.Ytcajcbeioilgmaa.Bytes Go.Proofs.Ytcajcbeioilgmaa.Octets Go.Proofs.Ytcajcbeioilgmaa.Crc Go.Proofs.YtcajcbeioilgmaaW.PrintWords Go.Proofs.YtcajcbeioilgmaaW.PrintLast Go.Proofs.YtcajcbeioilgmaaW.PrintMore

theorem Read_ (b : List Int) (a : Int) (hb : isByte b) (hl : b.length ≤ 140737488350000) : Ev (fun k => frame_Read.f k b a) (readOf b a) := by
  unfold frame_Read.f readOf
  by_cases h0 : a < 0
  · simp only [if_pos h0, if_pos (show a < 0 ∨ (b.length : Int) < a from .inl h0)]
    refine Ev.step (fun k => frame_Read.j0.eq_2 _ _ _ k) ?_
    simp only [if_true]
    exact Ev.now _
  · simp only [if_neg h0]
    by_cases h1 : a > (b.length : Int)
    · simp only [decide_eq_true h1, if_pos (show a < 0 ∨ (b.length : Int) < a from .inr h1)]
      refine Ev.step (fun k => frame_Read.j0.eq_2 _ _ _ k) ?_
      simp only [if_true]
      exact Ev.now _
    · have hn : ¬ (a < 0 ∨ (b.length : Int) < a) := by omega
      simp only [decide_eq_false h1, if_neg hn]
      refine Ev.step (fun k => frame_Read.j0.eq_2 _ _ _ k) ?_
      simp only [Bool.false_eq_true, if_false, if_pos (show 0 ≤ a by omega), if_pos (show a ≤ (b.length : Int) by omega), Option.bind_some]
      have hbx : isByte (b.drop a.toNat) := isByte_drop _ hb
      have hlx : (b.drop a.toNat).length ≤ 140737488350000 := by rw [List.length_drop]; omega
      have hax : a + (b.drop a.toNat).length ≤ 140737488350000 := by rw [List.length_drop]; omega
      generalize b.drop a.toNat = x at hbx hlx hax ⊢
      unfold readAt
      by_cases h2 : x.length < 16
      · simp only [if_pos h2, if_pos (show (x.length : Int) < 16 by omega)]
        exact Ev.now _
      · simp only [if_neg h2, if_neg (show ¬ (x.length : Int) < 16 by omega)]
        have hg := Get_ x 12 4 hbx (by omega)
        rw [get_length (by omega)] at hg
        refine Ev.bind hg ?_
        have hr := lengthOf_range hbx
        simp only [if_pos (show (0 : Int) < x.length by omega), if_pos (show (1 : Int) < x.length by omega), if_pos (show (3 : Int) < x.length by omega)]
        by_cases c : rd x 0 = 80 ∧ rd x 1 = 76 ∧ rd x 3 = 0 ∧ lengthOf x ≤ 16777216
        · obtain ⟨c0, c1, c3, c4⟩ := c
          simp only [if_neg (not_not_intro (And.intro c0 (And.intro c1 (And.intro c3 c4)))), if_pos c0, if_pos c1, if_pos c3, decide_eq_false (show ¬ lengthOf x > 16777216 by omega)]
          refine Ev.step (fun k => frame_Read.j1.eq_2 _ _ _ _ k) ?_
          obtain ⟨n, hn⟩ : ∃ n : Nat, lengthOf x = n := ⟨(lengthOf x).toNat, by omega⟩
          rw [hn] at c4
          have w1 : wrap64 (wrap64 (n : Int) + 20) = ((n + 20 : Nat) : Int) := by unfold wrap64; omega
          simp only [Bool.false_eq_true, if_false, hn, w1, Int.toNat_natCast]
          by_cases c5 : x.length < n + 20
          · simp only [if_pos c5, if_pos (show (x.length : Int) < ((n + 20 : Nat) : Int) by omega)]
            exact Ev.now _
          · simp only [if_neg c5, if_neg (show ¬ (x.length : Int) < ((n + 20 : Nat) : Int) by omega), if_pos (show (0 : Int) ≤ ((n + 20 : Nat) : Int) by omega), if_pos (show ((n + 20 : Nat) : Int) ≤ (x.length : Int) by omega)]
            have hlen : (x.take (n + 20)).length = n + 20 := by rw [List.length_take]; omega
            refine Ev.bind (open_ (x.take (n + 20)) (by omega)) ?_
            by_cases c6 : (opened (x.take (n + 20))).2 = 0
            · have hf := (opened_front c6).2
              rw [hlen, List.take_take, Nat.min_eq_left (by omega), show n + 20 - 4 = n + 16 by omega] at hf
              have hlen2 : (x.take (n + 16)).length = n + 16 := by rw [List.length_take]; omega
              simp only [if_pos c6, if_neg (not_not_intro c6), hf]
              have hg := Get_ (x.take (n + 16)) 4 8 (isByte_take _ hbx) (by omega)
              rw [get_serial (by omega), drop_take_take x (n + 16) 4 8 (by omega)] at hg
              refine Ev.bind hg ?_
              simp only [hlen2, if_pos (show (2 : Int) < ((n + 16 : Nat) : Int) by omega), if_pos (show (16 : Int) ≤ ((n + 16 : Nat) : Int) by omega)]
              have e1 : rd (x.take (n + 16)) 2 = rd x 2 := rd_take x (n + 16) 2 (by omega)
              have e3 : (x.take (n + 16)).drop (16 : Int).toNat = (x.drop 16).take n := by
                show (x.take (n + 16)).drop 16 = _
                rw [List.drop_take]
                congr 1
              rw [e1, e3, wrap_in _ (by omega) (by omega)]
              exact Ev.now _
            · simp only [if_neg c6, if_pos (show (opened (x.take (n + 20))).2 ≠ 0 from c6)]
              exact Ev.now _
        · simp only [if_pos c]
          have key : Ev (fun k => frame_Read.j1 k a x (lengthOf x) true) (0, 0, [], 0, 30) := by
            refine Ev.step (fun k => frame_Read.j1.eq_2 _ _ _ _ k) ?_
            simp only [if_true]
            exact Ev.now _
          by_cases c0 : rd x 0 = 80
          · simp only [if_pos c0]
            by_cases c1 : rd x 1 = 76
            · simp only [if_pos c1]
              by_cases c3 : rd x 3 = 0
              · have c4 : lengthOf x > 16777216 := by
                  apply Int.not_le.1
                  exact fun h => c ⟨c0, c1, c3, h⟩
                simp only [if_pos c3, decide_eq_true c4]
                exact key
              · simp only [if_neg c3]
                exact key
            · simp only [if_neg c1]
              exact key
          · simp only [if_neg c0]
            exact key
end Go.Proofs.Ytcajcbeioilgmaa.Frame
