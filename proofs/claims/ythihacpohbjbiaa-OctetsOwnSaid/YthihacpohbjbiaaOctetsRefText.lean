/- The reference's PutText: what it answers. -/
import Derived.Test.YthihacpohbjbiaaOctetsRef
import Derived.Test.YthihacpohbjbiaaFx9
namespace Go.Proofs.Ythihacpohbjbiaa.Octets
open Go.RowKit Go.Proofs.Ythihacpohbjbiaa.F Go.Proofs.Ythihacpohbjbiaa.Bytes Go.Proofs.YthihacpohbjbiaaW.PrintWords Go.Proofs.YthihacpohbjbiaaW.PrintLast Go.Proofs.YthihacpohbjbiaaW.PrintMore

theorem ref_PutText (b s : List Int) (hb : b.length + s.length ≤ 140737488355000) (hb2 : b.length ≤ 140737488351232) : Ev (fun k => plinthref01_PutText.f k b s) (putTextOf b s) := by
  unfold plinthref01_PutText.f putTextOf
  by_cases hs : 16777216 < s.length
  · rw [if_pos hs]
    exact Ev.congr (f := fun _ => some ([], 2)) (fun k => by rw [if_pos (by omega)]) (Ev.now _)
  · rw [if_neg hs]
    have h := ref_Put b (s.length : Int) 4 (by omega) hb2
    have hp : putOf b (s.length : Int) 4 = (b ++ le (s.length : Int) 4, 0) := by
      unfold putOf
      rw [if_neg (by omega), if_pos (show (s.length : Int) < 256 ^ (4 : Int).toNat from by
        have : (256 : Int) ^ (4 : Int).toNat = 4294967296 := rfl
        omega)]
      rfl
    rw [hp] at h
    refine Ev.congr (f := fun k => (plinthref01_Put.f k b (s.length : Int) 4).bind fun t => if t.1.length + s.length < 140737488355328 then some (t.1 ++ s, 0) else none) (fun k => by rw [if_neg (by omega), u64_in _ (by omega) (by omega)]) ?_
    refine Ev.bind h ?_
    refine Ev.congr (f := fun _ => some (b ++ le (s.length : Int) 4 ++ s, 0)) (fun k => ?_) (Ev.now _)
    dsimp only
    rw [if_pos (by rw [List.length_append, le_length]; omega)]
end Go.Proofs.Ythihacpohbjbiaa.Octets
