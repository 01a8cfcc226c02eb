/- The reference's sealing and opening: as the program's. -/
import Derived.Test.YtcajcbeioilgmaaCrcSeal
import Derived.Test.YtcajcbeioilgmaaBytes
import Derived.Test.YtcajcbeioilgmaaFx9
import Derived.Test.YtcajcbeioilgmaaFx10
import Derived.Test.YtcajcbeioilgmaaFx11
namespace Go.Proofs.Ytcajcbeioilgmaa.Crc
open Go.RowKit Go.Proofs.Ytcajcbeioilgmaa.F Go.Proofs.Ytcajcbeioilgmaa.Bytes Go.Proofs.YtcajcbeioilgmaaW.PrintWords Go.Proofs.YtcajcbeioilgmaaW.PrintLast Go.Proofs.YtcajcbeioilgmaaW.PrintMore

theorem ref_of (b : List Int) (h : b.length ≤ 9223372036854775807) : Ev (fun k => plinthref02_Of.f k b) (I (sum 0#32 b)) := by
  unfold plinthref02_Of.f
  exact Ev.bind (ref_more b h 0#32) (Ev.now _)
theorem ref_seal (b : List Int) (h : b.length < 140737488355000) : Ev (fun k => plinthref02_Seal.f k b) (sealed b) := by
  unfold plinthref02_Seal.f
  refine Ev.bind (ref_of b (by omega)) ?_
  simp only [Option.bind_some, List.nil_append, List.length_nil, List.length_cons]
  rw [show (fun n : Nat => if 0 + b.length < 140737488355328 then if b.length + (0 + 1 + 1 + 1 + 1) < 140737488355328 then some (b ++ [I (sum 0#32 b) % 256, I (sum 0#32 b) / 256 % 256, I (sum 0#32 b) / 65536 % 256, I (sum 0#32 b) / 16777216 % 256]) else none else none) = fun _ => some (sealed b) from by
    funext n
    rw [if_pos (by omega), if_pos (by omega)]
    rfl]
  exact Ev.now _
theorem isByte_le32 (v : Int) : isByte (le32 v) := by
  intro x hx
  simp only [le32, List.mem_cons, List.not_mem_nil, or_false] at hx
  rcases hx with rfl | rfl | rfl | rfl <;> omega
theorem isByte_sealed {b : List Int} (h : isByte b) : isByte (sealed b) := isByte_append h (isByte_le32 _)
theorem ref_open (l : List Int) (h : l.length < 140737488355000) (hb : isByte l) : Ev (fun k => plinthref02_Open.f k l) (opened l) := by
  unfold opened
  by_cases h4 : l.length < 4
  · rw [if_pos h4]
    refine Ev.congr (f := fun _ => some ([], 10)) (fun k => ?_) (Ev.now _)
    rw [plinthref02_Open.f, if_pos (by omega)]
  · rw [if_neg h4]
    have hl : (l.take (l.length - 4)).length < 140737488355000 := by rw [List.length_take]; omega
    have hS := ref_seal (l.take (l.length - 4)) hl
    refine Ev.congr (f := fun k => (plinthref02_Seal.f k (l.take (l.length - 4))).bind fun t => if (strOfNums t).toList = (strOfNums l).toList then some (l.take (l.length - 4), 0) else some ([], 31)) (fun k => ?_) ?_
    · rw [plinthref02_Open.f, if_neg (by omega), less4 l.length (by omega) h]
      simp only [Option.bind_some, Int.toNat_natCast, List.nil_append, List.length_nil]
      rw [if_pos (by omega), if_pos (by omega), if_pos (by omega)]
    · refine Ev.bind hS ?_
      have hi := text_iff (isByte_sealed (isByte_take (l.length - 4) hb)) hb
      by_cases hc : sealed (l.take (l.length - 4)) = l
      · rw [if_pos hc]
        simp only [hi.2 hc, if_true]
        exact Ev.now _
      · rw [if_neg hc]
        exact Ev.congr (f := fun _ => some ([], 31)) (fun k => by rw [if_neg (fun z => hc (hi.1 z))]) (Ev.now _)
theorem isByte_opened {l : List Int} (h : isByte l) : isByte (opened l).1 := by
  unfold opened
  split
  · exact isByte_nil
  · split
    · exact isByte_take _ h
    · exact isByte_nil
theorem opened_sealed (b : List Int) : opened (sealed b) = (b, 0) := by
  have hl : (sealed b).length - 4 = b.length := by rw [sealed_length]; omega
  have ht : (sealed b).take b.length = b := by simp [sealed]
  unfold opened
  rw [if_neg (by rw [sealed_length]; omega), hl, ht, if_pos rfl]
end Go.Proofs.Ytcajcbeioilgmaa.Crc
