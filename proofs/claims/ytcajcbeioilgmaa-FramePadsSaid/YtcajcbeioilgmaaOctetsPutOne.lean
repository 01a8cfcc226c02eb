/- The program's Put and PutText. -/
import Derived.Test.YtcajcbeioilgmaaOctetsPut
import Derived.Test.YtcajcbeioilgmaaFx14
import Derived.Test.YtcajcbeioilgmaaFx15
namespace Go.Proofs.Ytcajcbeioilgmaa.Octets
open Go.RowKit Go.Proofs.Ytcajcbeioilgmaa.F Go.Proofs.Ytcajcbeioilgmaa.Bytes Go.Proofs.YtcajcbeioilgmaaW.PrintWords Go.Proofs.YtcajcbeioilgmaaW.PrintLast Go.Proofs.YtcajcbeioilgmaaW.PrintMore

theorem Put_ (b : List Int) (v n : Int) (hv : 0 ≤ v ∧ v ≤ 18446744073709551615) (hb : b.length ≤ 140737488351232) : Ev (fun k => octets_Put.f k b v n) (putOf b v n) := by
  unfold octets_Put.f putOf
  by_cases hn : n < 1 ∨ 8 < n
  · rw [if_pos hn]
    refine Ev.congr (f := fun _ => some ([], 1)) (fun k => ?_) (Ev.now _)
    rw [octets_PutAll.f, sized_, Option.bind_some, decide_eq_false (by omega), if_neg (by decide), Option.bind_some]
  · rw [if_neg hn]
    obtain ⟨m, rfl⟩ : ∃ m : Nat, n = (m : Int) := ⟨n.toNat, by omega⟩
    have h := putAll_ b m [v] (by omega) (by simpa using hv) (by simp) (by simp; omega)
    refine Ev.bind h ?_
    simp only [putAllOf, Int.toNat_natCast]
    by_cases hf : v < 256 ^ m
    · simp only [if_pos hf]
      exact Ev.now _
    · simp only [if_neg hf]
      exact Ev.now _
theorem PutText_ (b s : List Int) (hb : b.length + s.length ≤ 140737488355000) : Ev (fun k => octets_PutText.f k b s) (putTextOf b s) := by
  unfold octets_PutText.f putTextOf
  by_cases hs : 16777216 < s.length
  · rw [if_pos hs]
    exact Ev.congr (f := fun _ => some ([], 2)) (fun k => by rw [if_pos (by omega)]) (Ev.now _)
  · rw [if_neg hs]
    refine Ev.congr (f := fun k => (octets_put.f k b (s.length : Int) ((4 : Nat) : Int)).bind fun t => if t.length + s.length < 140737488355328 then some (t ++ s, 0) else none) (fun k => ?_) ?_
    · rw [if_neg (by omega), clone_ b (by omega), Option.bind_some, u64_in _ (by omega) (by omega)]
      rfl
    · refine Ev.bind (put_ b _ 4 (by omega) (by omega)) ?_
      refine Ev.congr (f := fun _ => some (b ++ le (s.length : Int) 4 ++ s, 0)) (fun k => ?_) (Ev.now _)
      rw [if_pos (by rw [List.length_append, le_length]; omega)]
end Go.Proofs.Ytcajcbeioilgmaa.Octets
