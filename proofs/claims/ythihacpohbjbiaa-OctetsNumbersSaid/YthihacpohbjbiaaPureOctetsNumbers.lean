/- OctetsNumbers: the bytes of any number behind any bytes (at most 65,536 are looked at), and the number at any place of them, with their errors, are the reference's. No condition. -/
import Derived.Test.YthihacpohbjbiaaPureOctets
import Derived.Test.YthihacpohbjbiaaOctetsRef
import Derived.Test.YthihacpohbjbiaaFx9
namespace Go.Proofs.Ythihacpohbjbiaa.Pure
open Go.RowKit Go.Proofs.Ythihacpohbjbiaa.F Go.Proofs.Ythihacpohbjbiaa.Octets Go.Proofs.Ythihacpohbjbiaa.Bytes Go.Proofs.YthihacpohbjbiaaW.PrintWords Go.Proofs.YthihacpohbjbiaaW.PrintLast Go.Proofs.YthihacpohbjbiaaW.PrintMore

theorem OctetsNumbers : plinthlaw01_OctetsNumbers.Pure := by
  intro l0 a1 a2 a3 _ _ hb h1 _ _
  obtain ⟨c, hc, hl, he⟩ := cut_some l0
  have hbc : isByte c := by rw [he]; exact isByte_take _ (isByte_of hb)
  have hv := bounds_u64 h1
  refine Ev.rounds (g := fun k => plinthlaw01_OctetsNumbers.f k l0 a1 a2 a3) ?_
  unfold plinthlaw01_OctetsNumbers.f
  simp only [hc, Option.bind_some]
  refine Ev.bind (Put_ c a1 a3 hv (by omega)) ?_
  refine Ev.bind (ref_Put c a1 a3 hv (by omega)) ?_
  refine Ev.bind (Get_ c a2 a3 hbc (by omega)) ?_
  refine Ev.bind (ref_Get c a2 a3 hbc (by omega)) ?_
  simp only [if_true]
  exact Ev.bind awake (Ev.now _)
end Go.Proofs.Ythihacpohbjbiaa.Pure
