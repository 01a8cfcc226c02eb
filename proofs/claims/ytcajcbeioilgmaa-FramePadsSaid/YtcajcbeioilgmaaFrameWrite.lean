/- The program's Write, and a frame there and back. -/
import Derived.Test.YtcajcbeioilgmaaFrame
import Derived.Test.YtcajcbeioilgmaaOctetsPutOne
import Derived.Test.YtcajcbeioilgmaaFrameRead
import Derived.Test.YtcajcbeioilgmaaFx15
import Derived.Test.YtcajcbeioilgmaaFx1
namespace Go.Proofs.Ytcajcbeioilgmaa.Frame
open Go.RowKit Go.Proofs.Ytcajcbeioilgmaa.F Go.Proofs.Ytcajcbeioilgmaa.Bytes Go.Proofs.Ytcajcbeioilgmaa.Octets Go.Proofs.Ytcajcbeioilgmaa.Crc Go.Proofs.YtcajcbeioilgmaaW.PrintWords Go.Proofs.YtcajcbeioilgmaaW.PrintLast Go.Proofs.YtcajcbeioilgmaaW.PrintMore

theorem put_serial (kind serial : Int) (hs : 0 ≤ serial ∧ serial ≤ 18446744073709551615) : putOf [80, 76, kind, 0] serial 8 = ([80, 76, kind, 0] ++ le serial 8, 0) := by
  have hp : (256 : Int) ^ 8 = 18446744073709551616 := by decide
  unfold putOf
  rw [if_neg (by omega), if_pos (by show serial < 256 ^ 8; omega)]
  rfl
theorem Write_ (kind serial : Int) (body : List Int) (hs : 0 ≤ serial ∧ serial ≤ 18446744073709551615) (hl : body.length ≤ 140737488350000) : Ev (fun k => frame_Write.f k kind serial body) (writeOf kind serial body) := by
  have h1 := Put_ [80, 76, kind, 0] serial 8 hs (by simp)
  rw [put_serial kind serial hs] at h1
  have h2 := PutText_ ([80, 76, kind, 0] ++ le serial 8) body (by simp [le_length]; omega)
  unfold frame_Write.f writeOf
  refine Ev.bind h1 ?_
  refine Ev.bind h2 ?_
  unfold putTextOf
  by_cases h : 16777216 < body.length
  · simp only [if_pos h]
    exact Ev.congr (f := fun _ => some ([], 2)) (fun k => by simp) (Ev.now _)
  · simp only [if_neg h, if_true]
    refine Ev.bind (seal_ _ (by simp [le_length]; omega)) ?_
    exact Ev.now _
theorem cut_some (l : List Int) : ∃ c, plinthlaw03_cut.f l = some c ∧ c.length ≤ 16384 ∧ c = l.take 16384 := by
  unfold plinthlaw03_cut.f
  by_cases h : (l.length : Int) > 16384
  · rw [if_pos h, if_pos (by omega)]
    exact ⟨_, rfl, by rw [List.length_take]; omega, rfl⟩
  · rw [if_neg h]
    exact ⟨_, rfl, by omega, (List.take_of_length_le (by omega)).symm⟩
theorem awake : Ev (fun k => plinthlaw03_awake.f k) true := by
  have hb : isByte [97, 98] := by unfold isByte; decide
  have h1 := Write_ 7 1 [97, 98] (by omega) (by simp)
  rw [show writeOf 7 1 [97, 98] = (frameOf 7 1 [97, 98], 0) from by unfold writeOf; rw [if_neg (by simp)]] at h1
  have h2 := Read_ (frameOf 7 1 [97, 98]) 0 (isByte_frameOf (by omega) hb) (by rw [frameOf_length]; simp)
  have h3 := read_frame 7 1 [97, 98] [] (by omega) (by simp) 0
  rw [List.append_nil] at h3
  rw [show readOf (frameOf 7 1 [97, 98]) 0 = (7, 1, [97, 98], 22, 0) from by unfold readOf; rw [if_neg (by omega)]; exact h3] at h2
  have hL := frameOf_length 7 1 [97, 98]
  unfold plinthlaw03_awake.f
  refine Ev.bind h1 ?_
  refine Ev.bind h2 ?_
  have ht : (strOfNums [97, 98]).toList = ([97, 98] : List UInt8) := by
    rw [toList_data]
    rfl
  simp only [ht, if_true, hL, List.length_cons, List.length_nil, beq_self_eq_true]
  exact Ev.now _
end Go.Proofs.Ytcajcbeioilgmaa.Frame
