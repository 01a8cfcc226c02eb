/- Requests as bytes: what EncodeOp and DecodeOp answer; a write there and back. -/
import Derived.Test.YtogjpilkgghidaaBlockFit
import Derived.Test.YtogjpilkgghidaaOctetsPutText
import Derived.Test.YtogjpilkgghidaaOctetsGetText
import Derived.Test.YtogjpilkgghidaaFx11
import Derived.Test.YtogjpilkgghidaaFx12
import Derived.Test.YtogjpilkgghidaaFx13
import Derived.Test.YtogjpilkgghidaaFx9
import Derived.Test.YtogjpilkgghidaaFx14
import Derived.Test.YtogjpilkgghidaaFx15
namespace Go.Proofs.Ytogjpilkgghidaa.Block
open Go.RowKit Go.Proofs.Ytogjpilkgghidaa.F Go.Proofs.Ytogjpilkgghidaa.Bytes Go.Proofs.Ytogjpilkgghidaa.Octets Go.Proofs.YtogjpilkgghidaaW.PrintWords Go.Proofs.YtogjpilkgghidaaW.PrintLast Go.Proofs.YtogjpilkgghidaaW.PrintMore

theorem number_ok {b : List Int} {a n v nx : Int} (hb : isByte b) (hl : b.length ≤ 140737488351232) (h : getOf b a n = (v, nx, 0)) : Ev (fun k => block_left_number.f k b a 0 n) (wrap64 v, nx, 0) := by
  unfold block_left_number.f
  simp only [if_true]
  have hg := Get_ b a n hb (by omega)
  rw [h] at hg
  refine Ev.bind hg ?_
  simp only [if_true]
  exact Ev.now _
theorem text_ok {b s : List Int} {a nx : Int} (hb : isByte b) (hl : b.length ≤ 140737488351232) (h : getTextOf b a = (s, nx, 0)) : Ev (fun k => block_left_text.f k b a 0) (s, nx, 0) := by
  unfold block_left_text.f
  simp only [if_true]
  have hg := GetText_ b a hb hl
  rw [h] at hg
  refine Ev.bind hg ?_
  simp only [if_true]
  exact Ev.now _
theorem awake : Ev (fun k => plinthlaw04_awake.f k) true := by
  have hB : isByte [2, 7, 0, 0, 0, 2, 0, 0, 0, 4, 0, 0, 0, 97, 98, 99, 100, 0, 0, 0, 0] := by unfold isByte; decide
  have hE : Ev (fun k => block_EncodeOp.f k 2 7 2 [97, 98, 99, 100] []) ([2, 7, 0, 0, 0, 2, 0, 0, 0, 4, 0, 0, 0, 97, 98, 99, 100, 0, 0, 0, 0], 0) := by
    have h1 := putAll_ [2] 4 [7, 2] (by omega) (by decide) (by simp) (by simp)
    have h2 := PutText_ [2, 7, 0, 0, 0, 2, 0, 0, 0] [97, 98, 99, 100] (by simp)
    have h3 := PutText_ [2, 7, 0, 0, 0, 2, 0, 0, 0, 4, 0, 0, 0, 97, 98, 99, 100] [] (by simp)
    rw [show putAllOf [2] 4 [7, 2] = ([2, 7, 0, 0, 0, 2, 0, 0, 0], 0) from by decide +kernel] at h1
    rw [show putTextOf [2, 7, 0, 0, 0, 2, 0, 0, 0] [97, 98, 99, 100] = ([2, 7, 0, 0, 0, 2, 0, 0, 0, 4, 0, 0, 0, 97, 98, 99, 100], 0) from by decide +kernel] at h2
    rw [show putTextOf [2, 7, 0, 0, 0, 2, 0, 0, 0, 4, 0, 0, 0, 97, 98, 99, 100] [] = ([2, 7, 0, 0, 0, 2, 0, 0, 0, 4, 0, 0, 0, 97, 98, 99, 100, 0, 0, 0, 0], 0) from by decide +kernel] at h3
    unfold block_EncodeOp.f
    rw [Form_, show formOf 2 7 2 [97, 98, 99, 100] [] = 0 from by decide +kernel]
    simp only [Option.bind_some, if_true, u64_in 7 (by omega) (by omega), u64_in 2 (by omega) (by omega)]
    refine Ev.bind h1 ?_
    refine Ev.bind h2 ?_
    refine Ev.bind h3 ?_
    exact Ev.now _
  have hD : Ev (fun k => block_DecodeOp.f k [2, 7, 0, 0, 0, 2, 0, 0, 0, 4, 0, 0, 0, 97, 98, 99, 100, 0, 0, 0, 0]) (2, 7, 2, [97, 98, 99, 100], [], 21, 0) := by
    unfold block_DecodeOp.f
    have n1 := number_ok (a := 0) (n := 1) hB (by simp) (show getOf _ 0 1 = (2, 1, 0) from by decide +kernel)
    have n2 := number_ok (a := 1) (n := 4) hB (by simp) (show getOf _ 1 4 = (7, 5, 0) from by decide +kernel)
    have n3 := number_ok (a := 5) (n := 4) hB (by simp) (show getOf _ 5 4 = (2, 9, 0) from by decide +kernel)
    have t1 := text_ok (a := 9) hB (by simp) (show getTextOf _ 9 = ([97, 98, 99, 100], 17, 0) from by decide +kernel)
    have t2 := text_ok (a := 17) hB (by simp) (show getTextOf _ 17 = ([], 21, 0) from by decide +kernel)
    rw [show wrap64 2 = 2 from by decide +kernel] at n1 n3
    rw [show wrap64 7 = 7 from by decide +kernel] at n2
    refine Ev.bind n1 ?_
    refine Ev.bind n2 ?_
    refine Ev.bind n3 ?_
    refine Ev.bind t1 ?_
    refine Ev.bind t2 ?_
    simp only [Form_, show formOf (2 % 256) 7 2 [97, 98, 99, 100] [] = 0 from by decide +kernel, Option.bind_some, block_reader_end.f, if_true]
    exact Ev.now _
  have hF := Fit_ 8 2 2 7 2 [97, 98, 99, 100] []
  rw [show fitOf 8 2 2 7 2 [97, 98, 99, 100] [] = (2, 0) from by decide +kernel] at hF
  have ht : (strOfNums [97, 98, 99, 100]).toList = ([97, 98, 99, 100] : List UInt8) := by
    rw [toList_data]
    rfl
  unfold plinthlaw04_awake.f
  simp only [Option.bind_some]
  refine Ev.bind hF ?_
  refine Ev.bind hE ?_
  refine Ev.bind hD ?_
  simp only [if_true, ht, beq_self_eq_true]
  exact Ev.now _
end Go.Proofs.Ytogjpilkgghidaa.Block
