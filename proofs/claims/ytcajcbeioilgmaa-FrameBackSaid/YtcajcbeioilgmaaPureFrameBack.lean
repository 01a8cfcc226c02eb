/- FrameBack: a frame's bytes, with any bytes ahead and behind, are read as that frame. No condition. -/
import Derived.Test.YtcajcbeioilgmaaPlain
import Derived.Test.YtcajcbeioilgmaaAskFrameBack
namespace Go.Proofs.Ytcajcbeioilgmaa.Pure
open Go.RowKit Go.Proofs.Ytcajcbeioilgmaa.F Go.Proofs.Ytcajcbeioilgmaa.Frame Go.Proofs.Ytcajcbeioilgmaa.Octets Go.Proofs.Ytcajcbeioilgmaa.Bytes Go.Proofs.YtcajcbeioilgmaaW.PrintWords Go.Proofs.YtcajcbeioilgmaaW.PrintLast Go.Proofs.YtcajcbeioilgmaaW.PrintMore

theorem FrameBack : plinthlaw03_FrameBack.Pure := by
  rintro ⟨a0, a1, l⟩ p z ⟨ha0, ha1, _, _, hl⟩ ⟨_, _, hp⟩ ⟨_, _, hz⟩
  dsimp only at *
  obtain ⟨c, h0, hc, e0⟩ := cut_some l
  obtain ⟨q, h1, hq, e1⟩ := cut_some p
  obtain ⟨y, h2, hy, e2⟩ := cut_some z
  have hk := bounds_u8 ha0
  have hs := bounds_u64 ha1
  have bc : isByte c := by rw [e0]; exact isByte_take _ (isByte_of hl)
  have bq : isByte q := by rw [e1]; exact isByte_take _ (isByte_of hp)
  have bz : isByte y := by rw [e2]; exact isByte_take _ (isByte_of hz)
  have hL := frameOf_length a0 a1 c
  have hW := Write_ a0 a1 c hs (by omega)
  rw [show writeOf a0 a1 c = (frameOf a0 a1 c, 0) from by unfold writeOf; rw [if_neg (by omega)]] at hW
  have hR := Read_ (q ++ frameOf a0 a1 c ++ y) (q.length : Int) (isByte_append (isByte_append bq (isByte_frameOf hk bc)) bz) (by simp; omega)
  rw [show readOf (q ++ frameOf a0 a1 c ++ y) (q.length : Int) = (a0, a1, c, (q.length : Int) + (c.length + 20 : Nat), 0) from by
    unfold readOf
    rw [if_neg (by simp; omega), Int.toNat_natCast, List.append_assoc, List.drop_left]
    exact read_frame a0 a1 c y hs (by omega) _] at hR
  refine Ev.rounds (g := fun k => plinthlaw03_FrameBack.f k a0 a1 l p z) ?_
  unfold plinthlaw03_FrameBack.f
  refine Ev.bind awake ?_
  simp only [if_true, h0, h1, h2, Option.bind_some]
  refine Ev.bind hW ?_
  simp only [List.nil_append, List.length_nil, List.length_append, hL, if_pos (show 0 + q.length < 140737488355328 by omega), if_pos (show q.length + (c.length + 20) < 140737488355328 by omega),
    if_pos (show q.length + (c.length + 20) + y.length < 140737488355328 by omega)]
  refine Ev.bind hR ?_
  have w1 : wrap64 ((q.length : Int) + ((c.length + 20 : Nat) : Int)) = (q.length : Int) + ((c.length + 20 : Nat) : Int) := wrap_in _ (by omega) (by omega)
  have w2 : wrap64 ((c.length : Int) + 20) = ((c.length + 20 : Nat) : Int) := by rw [wrap_in _ (by omega) (by omega)]; omega
  simp only [if_true, ref_same_self, Option.bind_some, w1, w2, beq_self_eq_true]
  exact Ev.now _
end Go.Proofs.Ytcajcbeioilgmaa.Pure
