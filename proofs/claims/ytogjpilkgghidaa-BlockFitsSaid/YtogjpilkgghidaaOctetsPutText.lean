/- The program's PutText. -/
import Derived.Test.YtogjpilkgghidaaOctetsPut
import Derived.Test.YtogjpilkgghidaaFx8
namespace Go.Proofs.Ytogjpilkgghidaa.Octets
open Go.RowKit Go.Proofs.Ytogjpilkgghidaa.F Go.Proofs.Ytogjpilkgghidaa.Bytes Go.Proofs.YtogjpilkgghidaaW.PrintWords Go.Proofs.YtogjpilkgghidaaW.PrintLast Go.Proofs.YtogjpilkgghidaaW.PrintMore

theorem PutText_ (b s : List Int) (hb : b.length + s.length ≤ 140737488355000) : Ev (fun k => octets_PutText.f k b s) (putTextOf b s) := by
  unfold octets_PutText.f putTextOf
  by_cases hs : 16777216 < s.length
  · rw [if_pos hs]
    exact Ev.congr (f := fun _ => some ([], 2)) (fun k => by rw [if_pos (by omega)]) (Ev.now _)
  · rw [if_neg hs]
    refine Ev.congr (f := fun k => (octets_put.f k b (s.length : Int) ((4 : Nat) : Int)).bind fun t => if t.length + s.length < 140737488355328 then some (t ++ s, 0) else none) (fun k => ?_) ?_
    · rw [if_neg (by omega), clone_ b (by omega), Option.bind_some, u64_in _ (by omega) (by omega)]
      rfl
    · refine Ev.bind (put_ b _ 4 (by omega) (by omega)) ?_
      refine Ev.congr (f := fun _ => some (b ++ le (s.length : Int) 4 ++ s, 0)) (fun k => ?_) (Ev.now _)
      rw [if_pos (by rw [List.length_append, le_length]; omega)]
end Go.Proofs.Ytogjpilkgghidaa.Octets
