/- Frames in plain words: a frame's bytes, and the frame at a place of any bytes. -/
import Derived.Test.YtcajcbeioilgmaaOctets
import Derived.Test.YtcajcbeioilgmaaCrcSeal
import Derived.Test.YtcajcbeioilgmaaCrcRefSeal
namespace Go.Proofs.Ytcajcbeioilgmaa.Frame
open Go.RowKit Go.Proofs.Ytcajcbeioilgmaa.F Go.Proofs.Ytcajcbeioilgmaa.Bytes Go.Proofs.Ytcajcbeioilgmaa.Octets Go.Proofs.Ytcajcbeioilgmaa.Crc Go.Proofs.YtcajcbeioilgmaaW.PrintWords Go.Proofs.YtcajcbeioilgmaaW.PrintLast Go.Proofs.YtcajcbeioilgmaaW.PrintMore

def headed (kind serial : Int) (body : List Int) : List Int := [80, 76, kind, 0] ++ le serial 8 ++ le (body.length : Int) 4 ++ body
def frameOf (kind serial : Int) (body : List Int) : List Int := sealed (headed kind serial body)
def writeOf (kind serial : Int) (body : List Int) : List Int × Int := if 16777216 < body.length then ([], 2) else (frameOf kind serial body, 0)
def lengthOf (x : List Int) : Int := val ((x.drop 12).take 4)
def readAt (x : List Int) (a : Int) : Int × Int × List Int × Int × Int :=
  if x.length < 16 then (0, 0, [], 0, 10)
  else if ¬ (rd x 0 = 80 ∧ rd x 1 = 76 ∧ rd x 3 = 0 ∧ lengthOf x ≤ 16777216) then (0, 0, [], 0, 30)
  else if x.length < (lengthOf x).toNat + 20 then (0, 0, [], 0, 10)
  else if (opened (x.take ((lengthOf x).toNat + 20))).2 ≠ 0 then (0, 0, [], 0, 31)
  else (rd x 2, val ((x.drop 4).take 8), (x.drop 16).take (lengthOf x).toNat, a + ((lengthOf x).toNat + 20 : Nat), 0)
def readOf (b : List Int) (a : Int) : Int × Int × List Int × Int × Int :=
  if a < 0 ∨ (b.length : Int) < a then (0, 0, [], 0, 5) else readAt (b.drop a.toNat) a
theorem headed_length (kind serial : Int) (body : List Int) : (headed kind serial body).length = body.length + 16 := by
  simp [headed, le_length]
  omega
theorem frameOf_length (kind serial : Int) (body : List Int) : (frameOf kind serial body).length = body.length + 20 := by
  rw [frameOf, sealed_length, headed_length]
theorem isByte_four {kind : Int} (h : 0 ≤ kind ∧ kind ≤ 255) : isByte [80, 76, kind, 0] := by
  intro x hx
  simp only [List.mem_cons, List.not_mem_nil, or_false] at hx
  rcases hx with rfl | rfl | rfl | rfl <;> omega
theorem isByte_headed {kind serial : Int} {body : List Int} (h : 0 ≤ kind ∧ kind ≤ 255) (hb : isByte body) : isByte (headed kind serial body) :=
  isByte_append (isByte_append (isByte_append (isByte_four h) (le_byte _ _)) (le_byte _ _)) hb
theorem isByte_frameOf {kind serial : Int} {body : List Int} (h : 0 ≤ kind ∧ kind ≤ 255) (hb : isByte body) : isByte (frameOf kind serial body) := isByte_sealed (isByte_headed h hb)
theorem isByte_writeOf {kind serial : Int} {body : List Int} (h : 0 ≤ kind ∧ kind ≤ 255) (hb : isByte body) : isByte (writeOf kind serial body).1 := by
  unfold writeOf
  split
  · exact isByte_nil
  · exact isByte_frameOf h hb
theorem isByte_readAt {x : List Int} (a : Int) (hx : isByte x) : isByte (readAt x a).2.2.1 := by
  unfold readAt
  split
  · exact isByte_nil
  split
  · exact isByte_nil
  split
  · exact isByte_nil
  split
  · exact isByte_nil
  · exact isByte_take _ (isByte_drop _ hx)
theorem isByte_readOf {b : List Int} (a : Int) (hb : isByte b) : isByte (readOf b a).2.2.1 := by
  unfold readOf
  split
  · exact isByte_nil
  · exact isByte_readAt a (isByte_drop _ hb)
theorem lengthOf_range {x : List Int} (hx : isByte x) : 0 ≤ lengthOf x ∧ lengthOf x < 4294967296 := by
  have h := val_range (isByte_take 4 (isByte_drop 12 hx))
  unfold lengthOf
  refine ⟨h.1, Int.lt_of_lt_of_le h.2 ?_⟩
  have hl : ((x.drop 12).take 4).length ≤ 4 := by rw [List.length_take]; omega
  exact pow_mono hl
theorem get_length {x : List Int} (h : 16 ≤ x.length) : getOf x 12 4 = (lengthOf x, 16, 0) := by
  unfold getOf lengthOf
  rw [if_neg (by omega), if_neg (by omega), if_neg (by omega)]
  rfl
theorem get_serial {x : List Int} (h : 16 ≤ x.length) : getOf x 4 8 = (val ((x.drop 4).take 8), 12, 0) := by
  unfold getOf
  rw [if_neg (by omega), if_neg (by omega), if_neg (by omega)]
  rfl
/-- What is opened is the front of it. -/
theorem opened_front {l : List Int} (h : (opened l).2 = 0) : 4 ≤ l.length ∧ (opened l).1 = l.take (l.length - 4) := by
  unfold opened at h ⊢
  split at h
  · cases h
  · rename_i h4
    rw [if_neg h4]
    split at h
    · rename_i he
      rw [if_pos he]
      exact ⟨by omega, rfl⟩
    · cases h
theorem rd_take (l : List Int) (n i : Nat) (h : i < n) : rd (l.take n) (i : Int) = rd l (i : Int) := by
  rw [getD_rd, getD_rd]
  simp only [List.getD_eq_getElem?_getD, List.getElem?_take, if_pos h]
theorem drop_take_take (x : List Int) (n i m : Nat) (h : i + m ≤ n) : ((x.take n).drop i).take m = (x.drop i).take m := by
  rw [List.drop_take, List.take_take, Nat.min_eq_left (by omega)]
/-- A frame in any surroundings is read there. -/
theorem val_le_in (v : Int) (n : Nat) (h : 0 ≤ v ∧ v < 256 ^ n) : val (le v n) = v := by
  rw [val_le, Int.emod_eq_of_lt h.1 h.2]
theorem front16 (kind serial : Int) (body z : List Int) : (headed kind serial body ++ z) = [80, 76, kind, 0] ++ (le serial 8 ++ (le (body.length : Int) 4 ++ (body ++ z))) := by
  simp [headed]
theorem lengthOf_frame (kind serial : Int) (body z : List Int) (hl : body.length ≤ 16777216) : lengthOf (frameOf kind serial body ++ z) = body.length := by
  unfold lengthOf frameOf Crc.sealed
  rw [List.append_assoc, front16]
  have h : (([80, 76, kind, 0] ++ (le serial 8 ++ (le (body.length : Int) 4 ++ (body ++ (le32 (I (sum 0#32 (headed kind serial body))) ++ z))))).drop 12) = (le (body.length : Int) 4 ++ (body ++ (le32 (I (sum 0#32 (headed kind serial body))) ++ z))) := by
    rw [← List.append_assoc, List.drop_append, List.drop_of_length_le (by simp [le_length]), List.nil_append]
    simp [le_length]
  rw [h, List.take_append, List.take_of_length_le (by rw [le_length]; omega), le_length, Nat.sub_self, List.take_zero, List.append_nil]
  have hp : (256 : Int) ^ 4 = 4294967296 := by decide
  exact val_le_in _ 4 ⟨by omega, by omega⟩
theorem read_frame (kind serial : Int) (body z : List Int) (hs : 0 ≤ serial ∧ serial ≤ 18446744073709551615) (hl : body.length ≤ 16777216) (a : Int) :
    readAt (frameOf kind serial body ++ z) a = (kind, serial, body, a + (body.length + 20 : Nat), 0) := by
  have hn := lengthOf_frame kind serial body z hl
  have hL : (frameOf kind serial body ++ z).length = body.length + 20 + z.length := by rw [List.length_append, frameOf_length]
  have e : frameOf kind serial body ++ z = [80, 76, kind, 0] ++ (le serial 8 ++ (le (body.length : Int) 4 ++ (body ++ (le32 (I (sum 0#32 (headed kind serial body))) ++ z)))) := by
    rw [frameOf, Crc.sealed, List.append_assoc, front16]
  have r0 : rd (frameOf kind serial body ++ z) 0 = 80 := by rw [e]; rfl
  have r1 : rd (frameOf kind serial body ++ z) 1 = 76 := by rw [e]; rfl
  have r2 : rd (frameOf kind serial body ++ z) 2 = kind := by rw [e]; rfl
  have r3 : rd (frameOf kind serial body ++ z) 3 = 0 := by rw [e]; rfl
  have ht : (frameOf kind serial body ++ z).take (body.length + 20) = frameOf kind serial body := by
    rw [List.take_append, List.take_of_length_le (by rw [frameOf_length]; omega), frameOf_length, Nat.sub_self, List.take_zero, List.append_nil]
  have hd4 : ((frameOf kind serial body ++ z).drop 4).take 8 = le serial 8 := by
    rw [e, List.drop_left' (by rfl), List.take_left' (by rw [le_length])]
  have hd16 : ((frameOf kind serial body ++ z).drop 16).take body.length = body := by
    rw [e]
    have h : (([80, 76, kind, 0] ++ (le serial 8 ++ (le (body.length : Int) 4 ++ (body ++ (le32 (I (sum 0#32 (headed kind serial body))) ++ z))))).drop 16) = body ++ (le32 (I (sum 0#32 (headed kind serial body))) ++ z) := by
      rw [← List.append_assoc, ← List.append_assoc]
      exact List.drop_left' (by simp [le_length])
    rw [h, List.take_left' rfl]
  have hp : (256 : Int) ^ 8 = 18446744073709551616 := by decide
  unfold readAt
  rw [hn, Int.toNat_natCast, if_neg (by omega), if_neg (by simp [r0, r1, r3]; omega), if_neg (by omega), ht, frameOf, opened_sealed, if_neg (by simp), ← frameOf, r2, hd4, hd16, val_le_in _ 8 ⟨hs.1, by omega⟩]
end Go.Proofs.Ytcajcbeioilgmaa.Frame
