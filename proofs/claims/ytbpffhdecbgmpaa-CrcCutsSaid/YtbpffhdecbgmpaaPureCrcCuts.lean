/- CrcCuts: the sum of any bytes (at most 16,384 are looked at) hangs on no cuts: that of the pieces (at most 100 cuts), one behind the other, and that of all pieces together is the reference's sum of the whole. No condition. -/
import Derived.Test.YtbpffhdecbgmpaaCrcLaw
import Derived.Test.YtbpffhdecbgmpaaFx4
import Derived.Test.YtbpffhdecbgmpaaFx5
namespace Go.Proofs.Ytbpffhdecbgmpaa.Pure
open Go.RowKit Go.Proofs.Ytbpffhdecbgmpaa.F Go.Proofs.Ytbpffhdecbgmpaa.Crc Go.Proofs.YtbpffhdecbgmpaaW.PrintWords Go.Proofs.YtbpffhdecbgmpaaW.PrintLast Go.Proofs.YtbpffhdecbgmpaaW.PrintMore

theorem piece_le (l : List (List Int)) (y : List Int) (h : y ∈ l) : y.length ≤ l.flatten.length := by
  induction l with
  | nil => cases h
  | cons b l ih =>
    rw [List.flatten_cons, List.length_append]
    rcases List.mem_cons.1 h with rfl | h
    · omega
    · have := ih h
      omega
/-- The end: all pieces are there. -/
theorem ends (b x0 : List Int) (x6 : List (List Int)) (s : BitVec 32) (hb : b.length ≤ 16384) (h0 : x0.length ≤ 16384) (h6 : x6.length ≤ 1000) (hf : x6.flatten ++ x0 = b) (hs : s = sum 0#32 x6.flatten) :
    Ev (fun k => if x6.length < 5864062014805 then ((crc_Sum.f k (x6 ++ [x0])).bind fun t172 => (if t172 = I (sum 0#32 b) then ((crc_More.f k (I s) x0).bind fun t173 => (some (t173 == I (sum 0#32 b)))) else (some false))) else (none)) true := by
  have hp : ∀ y ∈ x6 ++ [x0], y.length ≤ 9223372036854775807 := by
    intro y hy
    have h1 := piece_le (x6 ++ [x0]) y hy
    have h2 : (x6 ++ [x0]).flatten = b := by rw [List.flatten_append]; simpa using hf
    rw [h2] at h1
    omega
  have hA := all (x6 ++ [x0]) (by simp; omega) hp
  have hAll : sumAll (x6 ++ [x0]) = sum 0#32 b := by
    unfold sumAll
    rw [sumAll_flat, List.flatten_append, ← hf]
    simp
  rw [hAll] at hA
  have hM := more x0 (by omega) s
  have hm : sum s x0 = sum 0#32 b := by rw [hs, ← sum_append, hf]
  rw [hm] at hM
  refine Ev.congr (f := fun k => (crc_Sum.f k (x6 ++ [x0])).bind fun t172 => (if t172 = I (sum 0#32 b) then ((crc_More.f k (I s) x0).bind fun t173 => (some (t173 == I (sum 0#32 b)))) else (some false))) (fun k => by rw [if_pos (by omega)]) ?_
  refine Ev.bind hA ?_
  simp only [if_true]
  refine Ev.bind hM ?_
  simp only [BEq.rfl]
  exact Ev.now _
theorem loop (b x1 : List Int) (hb : b.length ≤ 16384) (h1 : ∀ x ∈ x1, 0 ≤ x ∧ x ≤ 255) (d : Nat) : ∀ (i : Nat) (x0 : List Int) (x6 : List (List Int)) (s : BitVec 32), i + d = 100 → x0.length ≤ 16384 → x6.length = i → x6.flatten ++ x0 = b → s = sum 0#32 x6.flatten →
    Ev (fun k => plinthlaw02_CrcCuts.l0 k x0 x1 (I (sum 0#32 b)) x6 (I s) (i : Int)) true := by
  induction d with
  | zero =>
    intro i x0 x6 s h h0 h6 hf hs
    refine Ev.step (fun k => ?_) (ends b x0 x6 s hb h0 (by omega) hf hs)
    rw [plinthlaw02_CrcCuts.l0]
    by_cases hc : (i : Int) < (x1.length : Int)
    · rw [if_pos hc, if_neg (by omega)]
    · rw [if_neg hc]
  | succ d ih =>
    intro i x0 x6 s h h0 h6 hf hs
    by_cases hc : (i : Int) < (x1.length : Int)
    · have hx : 0 ≤ rd x1 (i : Int) ∧ rd x1 (i : Int) ≤ 255 := by
        rw [getD_rd]
        have : i < x1.length := by omega
        simp only [List.getD_eq_getElem?_getD, List.getElem?_eq_getElem this, Option.getD_some]
        exact h1 _ (List.getElem_mem this)
      have hw : wrap64 (rd x1 (i : Int)) = rd x1 (i : Int) := by unfold wrap64; omega
      obtain ⟨n, hn⟩ : ∃ n : Nat, mn (rd x1 (i : Int)) (x0.length : Int) = (n : Int) := by
        refine ⟨(mn (rd x1 (i : Int)) (x0.length : Int)).toNat, ?_⟩
        unfold mn
        split <;> omega
      have hle : n ≤ x0.length := by
        unfold mn at hn
        split at hn <;> omega
      have hM := more (x0.take n) (by rw [List.length_take]; omega) s
      refine Ev.step (f := fun k => (crc_More.f k (I s) (x0.take n)).bind fun t => plinthlaw02_CrcCuts.l0 k (x0.drop n) x1 (I (sum 0#32 b)) (x6 ++ [x0.take n]) t ((i + 1 : Nat) : Int)) (fun k => ?_) ?_
      · rw [plinthlaw02_CrcCuts.l0, if_pos hc, if_pos (by omega), if_pos (by omega), hw, hn, if_pos (by omega), if_pos (by omega)]
        simp only [Option.bind_some, Int.toNat_natCast]
        rw [if_pos (by omega), wrap_one i 100 (by omega) (by omega)]
      · refine Ev.bind hM (ih (i + 1) (x0.drop n) (x6 ++ [x0.take n]) (sum s (x0.take n)) (by omega) (by rw [List.length_drop]; omega) (by simp; omega) ?_ ?_)
        · rw [List.flatten_append, ← hf]
          simp
        · rw [List.flatten_append, hs, ← sum_append]
          simp
    · refine Ev.step (fun k => ?_) (ends b x0 x6 s hb h0 (by omega) hf hs)
      rw [plinthlaw02_CrcCuts.l0, if_neg hc]
theorem CrcCuts : plinthlaw02_CrcCuts.Pure := by
  intro l0 l1 _ _ _ _ _ hb1
  obtain ⟨c0, h0, hc0, _⟩ := cut_some l0
  have hO : Ev (fun k => plinthref02_Of.f k c0) (I (sum 0#32 c0)) := by
    unfold plinthref02_Of.f
    exact Ev.bind (ref_more c0 (by omega) 0#32) (Ev.now _)
  refine Ev.rounds (g := fun k => plinthlaw02_CrcCuts.f k l0 l1) ?_
  unfold plinthlaw02_CrcCuts.f
  refine Ev.bind awake ?_
  simp only [if_true, h0, Option.bind_some]
  refine Ev.bind hO ?_
  exact loop c0 l1 hc0 (fun x hx => bounds_u8 (hb1 x hx)) 100 0 c0 [] 0#32 (by omega) hc0 rfl rfl rfl
end Go.Proofs.Ytbpffhdecbgmpaa.Pure
