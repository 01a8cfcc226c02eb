/- FramePads: bytes up to a multiple: program and reference answer alike. No condition. -/
import Derived.Test.YtcajcbeioilgmaaFrameWrite
import Derived.Test.YtcajcbeioilgmaaFx16
import Derived.Test.YtcajcbeioilgmaaFx17
import Derived.Test.YtcajcbeioilgmaaFx18
namespace Go.Proofs.Ytcajcbeioilgmaa.Pure
open Go.RowKit Go.Proofs.Ytcajcbeioilgmaa.F Go.Proofs.Ytcajcbeioilgmaa.Frame Go.Proofs.Ytcajcbeioilgmaa.Octets Go.Proofs.Ytcajcbeioilgmaa.Bytes Go.Proofs.YtcajcbeioilgmaaW.PrintWords Go.Proofs.YtcajcbeioilgmaaW.PrintLast Go.Proofs.YtcajcbeioilgmaaW.PrintMore

theorem pad_rest (L n : Int) (hn : 0 < n) : ∃ r : Nat, (n - L % n) % n = (r : Int) ∧ (r : Int) < n ∧ (L + r) % n = 0 ∧ ∀ e : Nat, e < r → (L + e) % n ≠ 0 := by
  have h0 := Int.emod_nonneg L (show n ≠ 0 by omega)
  have h1 := Int.emod_lt_of_pos L hn
  have hm : ∀ e : Int, (L + e) % n = (L % n + e) % n := fun e => by rw [Int.emod_add_emod]
  by_cases hz : L % n = 0
  · refine ⟨0, by rw [hz, Int.sub_zero, Int.emod_self]; rfl, by omega, by rw [hm, hz]; simp, fun e he => by omega⟩
  · refine ⟨(n - L % n).toNat, ?_, by omega, ?_, fun e he => ?_⟩
    · rw [Int.emod_eq_of_lt (by omega) (by omega)]
      omega
    · rw [hm, show L % n + ((n - L % n).toNat : Int) = n by omega, Int.emod_self]
    · rw [hm, Int.emod_eq_of_lt (by omega) (by omega)]
      omega
theorem pad_from (n : Int) (hn : 0 < n) (d : Nat) : ∀ x : List Int, x.length + d < 140737488355328 → ((x.length : Int) + d) % n = 0 → (∀ e : Nat, e < d → ((x.length : Int) + e) % n ≠ 0) →
    Ev (fun k => plinthref03_Pad.l0 k n x) (x ++ List.replicate d 0, 0) := by
  induction d with
  | zero =>
    intro x _ h0 _
    refine Ev.step (fun k => plinthref03_Pad.l0.eq_2 _ _ k) ?_
    simp only [if_neg (show ¬ n = 0 by omega), if_pos (show (x.length : Int) % n = 0 by simpa using h0)]
    exact Ev.congr (f := fun _ => some (x, 0)) (fun k => rfl) (by simpa using Ev.now (x, (0 : Int)))
  | succ d ih =>
    intro x hl h0 h1
    refine Ev.step (fun k => plinthref03_Pad.l0.eq_2 _ _ k) ?_
    have hz := h1 0 (by omega)
    simp only [if_neg (show ¬ n = 0 by omega), if_neg (show ¬ (x.length : Int) % n = 0 by simpa using hz), if_pos (show x.length < 140737488355328 by omega)]
    have := ih (x ++ [0]) (by simp; omega) (by simp; rw [← h0]; congr 1; omega) (fun e he => by
      have := h1 (e + 1) (by omega)
      simp
      rw [show ((x.length : Int) + 1 + e) = (x.length : Int) + ((e + 1 : Nat) : Int) by omega]
      exact this)
    rw [List.append_assoc] at this
    exact this
theorem pad_both (c : List Int) (hc : c.length ≤ 16384) (n : Int) : ∃ r : List Int × Int, frame_Pad.f c n = some r ∧ Ev (fun k => plinthref03_Pad.f k c n) r := by
  unfold frame_Pad.f plinthref03_Pad.f
  by_cases h0 : n < 1
  · refine ⟨([], 1), by rw [if_pos h0], ?_⟩
    simp only [if_pos h0]
    refine Ev.step (fun k => plinthref03_Pad.j0.eq_2 _ _ _ k) ?_
    simp only [if_true]
    exact Ev.now _
  · by_cases h1 : n > 16777216
    · refine ⟨([], 1), by rw [if_neg h0, if_pos h1], ?_⟩
      simp only [if_neg h0, decide_eq_true h1]
      refine Ev.step (fun k => plinthref03_Pad.j0.eq_2 _ _ _ k) ?_
      simp only [if_true]
      exact Ev.now _
    · obtain ⟨r, hr, hrn, hz, hf⟩ := pad_rest (c.length : Int) n (by omega)
      have e0 := Int.emod_nonneg (c.length : Int) (show n ≠ 0 by omega)
      have e1 := Int.emod_lt_of_pos (c.length : Int) (show 0 < n by omega)
      have hw : wrap64 (n - (c.length : Int) % n) = n - (c.length : Int) % n := wrap_in _ (by omega) (by omega)
      have ht : Int.tmod (n - (c.length : Int) % n) n = (r : Int) := by rw [Int.tmod_eq_emod_of_nonneg (by omega), hr]
      refine ⟨(c ++ List.replicate r 0, 0), ?_, ?_⟩
      · rw [if_neg h0, if_neg h1, if_neg (by omega), bytes_Clone.f, Option.bind_some, if_pos (by simp; omega), Option.bind_some, hw, ht, if_pos (by omega), Int.toNat_natCast, List.nil_append, if_pos (by omega)]
      · simp only [if_neg h0, decide_eq_false h1]
        refine Ev.step (fun k => plinthref03_Pad.j0.eq_2 _ _ _ k) ?_
        simp only [Bool.false_eq_true, if_false, Option.bind_some, List.nil_append, List.length_nil, Nat.zero_add, if_pos (show c.length < 140737488355328 by omega)]
        exact pad_from n (by omega) r c (by omega) hz hf
theorem FramePads : plinthlaw03_FramePads.Pure := by
  intro l0 a1 _ _ hb ha
  obtain ⟨c, h0, hc, he⟩ := cut_some l0
  refine Ev.rounds (g := fun k => plinthlaw03_FramePads.f k l0 a1) ?_
  unfold plinthlaw03_FramePads.f
  simp only [h0, Option.bind_some]
  have key : ∀ n : Int, Ev (fun k => (frame_Pad.f c n).bind fun bt346 => ((plinthref03_Pad.f k c n).bind fun bt350 => (if (strOfNums bt346.1).toList = (strOfNums bt350.1).toList then (if bt346.2 = bt350.2 then ((plinthlaw03_awake.f k).bind fun t354 => (some t354)) else (some false)) else (some false)))) true := by
    intro n
    obtain ⟨r, hp, hq⟩ := pad_both c hc n
    simp only [hp, Option.bind_some]
    refine Ev.bind hq ?_
    simp only [if_true]
    refine Ev.bind awake ?_
    exact Ev.now _
  by_cases h1 : a1 > 16384
  · simp only [if_pos h1]
    by_cases h2 : a1 ≤ 16777216
    · simp only [decide_eq_true h2]
      refine Ev.step (fun k => plinthlaw03_FramePads.j0.eq_2 _ _ _ k) ?_
      simp only [if_true]
      exact key 16384
    · simp only [decide_eq_false h2]
      refine Ev.step (fun k => plinthlaw03_FramePads.j0.eq_2 _ _ _ k) ?_
      simp only [Bool.false_eq_true, if_false]
      exact key a1
  · simp only [if_neg h1]
    refine Ev.step (fun k => plinthlaw03_FramePads.j0.eq_2 _ _ _ k) ?_
    simp only [Bool.false_eq_true, if_false]
    exact key a1
end Go.Proofs.Ytcajcbeioilgmaa.Pure
