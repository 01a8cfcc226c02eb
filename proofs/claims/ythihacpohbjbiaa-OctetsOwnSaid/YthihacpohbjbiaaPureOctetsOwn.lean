/- OctetsOwn: what is handed in to PutText (at most 65,536 bytes of each are looked at) is not changed, and what it answers is not shared with it: turned behind the call, the bytes leave the answer as the reference tells it. No condition. -/
import Derived.Test.YthihacpohbjbiaaPureOctets
import Derived.Test.YthihacpohbjbiaaOctetsRefText
import Derived.Test.YthihacpohbjbiaaFx13
namespace Go.Proofs.Ythihacpohbjbiaa.Pure
open Go.RowKit Go.Proofs.Ythihacpohbjbiaa.F Go.Proofs.Ythihacpohbjbiaa.Octets Go.Proofs.Ythihacpohbjbiaa.Bytes Go.Proofs.YthihacpohbjbiaaW.PrintWords Go.Proofs.YthihacpohbjbiaaW.PrintLast Go.Proofs.YthihacpohbjbiaaW.PrintMore

theorem turned (c s : List Int) (hc : c.length ≤ 65536) (hs : s.length ≤ 65536) (d : Nat) : ∀ (i : Nat) (x : List Int), x.length = c.length → i + d = c.length →
    Ev (fun k => plinthlaw01_OctetsOwn.l0 k c s x (putTextOf c s).1 (c.length : Int) (i : Int)) true := by
  induction d with
  | zero =>
    intro i x hx h
    refine Ev.step (f := fun k => (plinthref01_PutText.f k c s).bind fun bt => (if (strOfNums (putTextOf c s).1).toList = (strOfNums bt.1).toList then ((plinthlaw01_awake.f k).bind fun t => (some t)) else (some false))) (fun k => ?_) ?_
    · rw [plinthlaw01_OctetsOwn.l0, if_neg (by omega)]
    · refine Ev.bind (ref_PutText c s (by omega) (by omega)) ?_
      simp only [if_true]
      exact Ev.bind awake (Ev.now _)
  | succ d ih =>
    intro i x hx h
    refine Ev.step (f := fun k => plinthlaw01_OctetsOwn.l0 k c s (x.set i (Go.bits .xor .u8 255 (rd x (i : Int)))) (putTextOf c s).1 (c.length : Int) ((i + 1 : Nat) : Int)) (fun k => ?_) (ih (i + 1) _ (by simpa using hx) (by omega))
    rw [plinthlaw01_OctetsOwn.l0, if_pos (by omega), if_pos (by omega), if_pos (by omega), wrap_next i c.length (by omega) (by omega), Int.toNat_natCast]
theorem OctetsOwn : plinthlaw01_OctetsOwn.Pure := by
  intro l0 l1 _ _ _ _ _ _
  obtain ⟨c, hc, hl, _⟩ := cut_some l0
  obtain ⟨s, hs, hsl, _⟩ := cut_some l1
  refine Ev.rounds (g := fun k => plinthlaw01_OctetsOwn.f k l0 l1) ?_
  unfold plinthlaw01_OctetsOwn.f
  simp only [hc, hs, Option.bind_some, List.nil_append, List.length_nil]
  have h1 : 0 + c.length < 140737488355328 := by omega
  have h2 : 0 + s.length < 140737488355328 := by omega
  simp only [if_pos h1, if_pos h2]
  refine Ev.bind (PutText_ c s (by omega)) ?_
  simp only [if_true, bne_self_eq_false]
  refine Ev.step (f := fun k => plinthlaw01_OctetsOwn.l0 k c s c (putTextOf c s).1 (c.length : Int) ((0 : Nat) : Int)) (fun k => ?_) (turned c s hl hsl c.length 0 c rfl (by omega))
  rw [plinthlaw01_OctetsOwn.j0, if_neg (by decide)]
  rfl
end Go.Proofs.Ythihacpohbjbiaa.Pure
