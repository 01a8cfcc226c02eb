/- FrameSpoilt: a frame of which one byte is another is none, or a shorter one where the byte is of its length; bytes 0 are none. No condition. -/
import Derived.Test.YtcajcbeioilgmaaPlain
import Derived.Test.YtcajcbeioilgmaaAskFrameSpoilt
import Derived.Laws.BitsAllLaws
namespace Go.Proofs.Ytcajcbeioilgmaa.Pure
open Go.RowKit Go.Proofs.Ytcajcbeioilgmaa.F Go.Proofs.Ytcajcbeioilgmaa.Frame Go.Proofs.Ytcajcbeioilgmaa.Octets Go.Proofs.Ytcajcbeioilgmaa.Crc Go.Proofs.Ytcajcbeioilgmaa.Bytes Go.Proofs.YtcajcbeioilgmaaW.PrintWords Go.Proofs.YtcajcbeioilgmaaW.PrintLast Go.Proofs.YtcajcbeioilgmaaW.PrintMore

/-- Two sealed rows that differ in one byte at most are one. -/
theorem sealed_one {b d p z : List Int} {c v : Int} (hb : sealed b = p ++ c :: z) (hd : sealed d = p ++ v :: z) (hc : 0 ≤ c ∧ c ≤ 255) (hv : 0 ≤ v ∧ v ≤ 255) : c = v := by
  have h1 := raw_sealed b
  rw [hb, raw_append, raw_cons] at h1
  have h2 := raw_sealed d
  rw [hd, raw_append, raw_cons, ← h1] at h2
  have h3 := xor_left (steps_inj 8 (raw_inj z h2))
  have h4 := congrArg BitVec.toNat h3
  rw [BitVec.toNat_ofInt, BitVec.toNat_ofInt] at h4
  have a1 : c % ((2 ^ 32 : Nat) : Int) = c := by omega
  have a2 : v % ((2 ^ 32 : Nat) : Int) = v := by omega
  rw [a1, a2] at h4
  omega
theorem set_at (p : List Int) (c : Int) (z : List Int) (v : Int) : (p ++ c :: z).set p.length v = p ++ v :: z := by
  induction p with
  | nil => rfl
  | cons a p ih => simp [ih]
theorem split_at (b : List Int) (k : Nat) (h : k < b.length) : ∃ p z, b = p ++ rd b (k : Int) :: z ∧ p.length = k := by
  refine ⟨b.take k, b.drop (k + 1), ?_, by rw [List.length_take]; omega⟩
  rw [← Crc.drop_cons b k h, List.take_append_drop]
theorem length_far (b : List Int) (k : Nat) (v : Int) (h : k < 12 ∨ 16 ≤ k) : lengthOf (b.set k v) = lengthOf b := by
  unfold lengthOf
  congr 1
  apply List.ext_getElem?
  intro i
  simp only [List.getElem?_take, List.getElem?_drop, List.getElem?_set]
  by_cases hi : i < 4
  · rw [if_pos hi, if_pos hi, if_neg (by omega)]
  · rw [if_neg hi, if_neg hi]
theorem spoilt_read (kind serial : Int) (body : List Int) (hk : 0 ≤ kind ∧ kind ≤ 255) (hl : body.length ≤ 16777216) (hb : isByte body) (k : Nat) (hkl : k < (frameOf kind serial body).length) (v : Int) (hv : 0 ≤ v ∧ v ≤ 255)
    (hne : v ≠ rd (frameOf kind serial body) (k : Int)) (h : (readAt ((frameOf kind serial body).set k v) 0).2.2.2.2 = 0) :
    12 ≤ k ∧ k < 16 ∧ (readAt ((frameOf kind serial body).set k v) 0).2.2.1.length < body.length := by
  have hL := frameOf_length kind serial body
  have hF := lengthOf_frame kind serial body [] hl
  rw [List.append_nil] at hF
  have hby : isByte (frameOf kind serial body) := isByte_frameOf hk hb
  obtain ⟨p, z, hs, hp⟩ := split_at _ k hkl
  have hset : (frameOf kind serial body).set k v = p ++ v :: z := by
    rw [← hp]
    conv => lhs; rw [hs]
    exact set_at _ _ _ _
  have hyl : ((frameOf kind serial body).set k v).length = body.length + 20 := by rw [List.length_set, hL]
  have hyb : isByte ((frameOf kind serial body).set k v) := by
    intro y hy
    rcases List.mem_or_eq_of_mem_set hy with hy | rfl
    · exact hby y hy
    · exact hv
  have hfar := length_far (frameOf kind serial body) k v
  have hrange := lengthOf_range hyb
  have hc := rd_byte hby k hkl
  generalize hY : (frameOf kind serial body).set k v = y at h hset hyl hfar hyb hrange ⊢
  unfold readAt at h ⊢
  by_cases c1 : y.length < 16
  · omega
  rw [if_neg c1] at h ⊢
  by_cases c2 : rd y 0 = 80 ∧ rd y 1 = 76 ∧ rd y 3 = 0 ∧ lengthOf y ≤ 16777216
  · rw [if_neg (not_not_intro c2)] at h ⊢
    by_cases c3 : y.length < (lengthOf y).toNat + 20
    · rw [if_pos c3] at h
      exact absurd h (by simp)
    · rw [if_neg c3] at h ⊢
      by_cases c4 : (opened (y.take ((lengthOf y).toNat + 20))).2 = 0
      · rw [if_neg (not_not_intro c4)] at h ⊢
        have hlt : (lengthOf y).toNat ≠ body.length := by
          intro he
          rw [he, List.take_of_length_le (by omega)] at c4
          unfold opened at c4
          split at c4
          · cases c4
          · split at c4
            · rename_i hseal
              rw [hset] at hseal
              exact hne (sealed_one hs hseal hc hv).symm
            · cases c4
        have hfar' : ¬ (k < 12 ∨ 16 ≤ k) := by
          intro hh
          have := hfar hh
          omega
        refine ⟨by omega, by omega, ?_⟩
        show ((y.drop 16).take (lengthOf y).toNat).length < body.length
        rw [List.length_take, List.length_drop]
        omega
      · rw [if_pos c4] at h
        exact absurd h (by simp)
  · rw [if_pos c2] at h
    exact absurd h (by simp)
theorem zeros_none (n : Nat) : (readOf (List.replicate n 0) 0).2.2.2.2 ≠ 0 := by
  unfold readOf
  rw [if_neg (by simp)]
  show (readAt (List.replicate n 0) 0).2.2.2.2 ≠ 0
  unfold readAt
  by_cases h : n < 16
  · rw [if_pos (by simpa using h)]
    simp
  · rw [if_neg (by simpa using h), if_pos]
    · simp
    · intro hh
      have h2 := (getD_rd (List.replicate n 0) 0).symm.trans hh.1
      rw [List.getD_eq_getElem?_getD, List.getElem?_replicate, if_pos (by omega)] at h2
      simp at h2
theorem FrameSpoilt : plinthlaw03_FrameSpoilt.Pure := by
  rintro ⟨a0, a1, l⟩ x1 x2 x3 ⟨ha0, ha1, _, _, hl⟩ h1 h2 h3
  dsimp only at *
  obtain ⟨c, h0, hc, e0⟩ := cut_some l
  have hk := bounds_u8 ha0
  have hs := bounds_u64 ha1
  have r1 := bounds_u16 h1
  have r2 := bounds_u8 h2
  have r3 := bounds_u8 h3
  have bc : isByte c := by rw [e0]; exact isByte_take _ (isByte_of hl)
  have hL := frameOf_length a0 a1 c
  have hW := Write_ a0 a1 c hs (by omega)
  rw [show writeOf a0 a1 c = (frameOf a0 a1 c, 0) from by unfold writeOf; rw [if_neg (by omega)]] at hW
  have hw3 : wrap64 x3 = x3 := wrap_in _ (by omega) (by omega)
  obtain ⟨n, rfl⟩ : ∃ n : Nat, x3 = (n : Int) := ⟨x3.toNat, by omega⟩
  have hZ := Read_ (List.replicate n 0) 0 (fun x hx => by have := List.eq_of_mem_replicate hx; omega) (by simp; omega)
  have hzn := zeros_none n
  refine Ev.rounds (g := fun k => plinthlaw03_FrameSpoilt.f k a0 a1 l x1 x2 (n : Int)) ?_
  unfold plinthlaw03_FrameSpoilt.f
  refine Ev.bind awake ?_
  simp only [if_true, h0, Option.bind_some]
  refine Ev.bind hW ?_
  simp only [hw3, if_true, if_pos (show (0 : Int) ≤ (n : Int) by omega), Int.toNat_natCast, if_pos (show n ≤ 281474976710656 by omega), hL, if_neg (show ¬ ((c.length + 20 : Nat) : Int) = 0 by omega)]
  refine Ev.bind hZ ?_
  simp only [beq_eq_false_iff_ne.mpr hzn]
  refine Ev.step (fun k => plinthlaw03_FrameSpoilt.j0.eq_2 _ _ _ _ _ _ _ k) ?_
  simp only [Bool.false_eq_true, if_false]
  by_cases hx : x2 = 0
  · simp only [if_pos hx]
    exact Ev.now _
  · obtain ⟨k8, hk8, hkl⟩ : ∃ k8 : Nat, Int.tmod (wrap64 x1) ((c.length + 20 : Nat) : Int) = (k8 : Int) ∧ k8 < c.length + 20 := by
      have hw : wrap64 x1 = x1 := wrap_in _ (by omega) (by omega)
      rw [hw, Int.tmod_eq_emod_of_nonneg r1.1]
      have e1 := Int.emod_nonneg x1 (show ((c.length + 20 : Nat) : Int) ≠ 0 by omega)
      have e2 := Int.emod_lt_of_pos x1 (show (0 : Int) < ((c.length + 20 : Nat) : Int) by omega)
      exact ⟨(x1 % ((c.length + 20 : Nat) : Int)).toNat, by omega, by omega⟩
    simp only [if_neg hx, hL, if_neg (show ¬ ((c.length + 20 : Nat) : Int) = 0 by omega), hk8, if_pos (show (0 : Int) ≤ (k8 : Int) by omega), if_pos (show (k8 : Int) < ((c.length + 20 : Nat) : Int) by omega), Int.toNat_natCast]
    have hby : isByte (frameOf a0 a1 c) := isByte_frameOf hk bc
    have hcb := rd_byte hby k8 (by omega)
    have hv : Go.bits .xor .u8 (rd (frameOf a0 a1 c) (k8 : Int)) x2 = (((rd (frameOf a0 a1 c) (k8 : Int)).toNat ^^^ x2.toNat : Nat) : Int) := u8_xor _ _ hcb.1 (by omega) (by omega) (by omega)
    have hlt : (rd (frameOf a0 a1 c) (k8 : Int)).toNat ^^^ x2.toNat < 2 ^ 8 := Nat.xor_lt_two_pow (by omega) (by omega)
    have hne : Go.bits .xor .u8 (rd (frameOf a0 a1 c) (k8 : Int)) x2 ≠ rd (frameOf a0 a1 c) (k8 : Int) := by
      rw [hv]
      intro he
      have h5 : (rd (frameOf a0 a1 c) (k8 : Int)).toNat ^^^ x2.toNat = (rd (frameOf a0 a1 c) (k8 : Int)).toNat := by omega
      have h6 := congrArg ((rd (frameOf a0 a1 c) (k8 : Int)).toNat ^^^ ·) h5
      simp only [← Nat.xor_assoc, Nat.xor_self, Nat.zero_xor] at h6
      omega
    have hvb : 0 ≤ Go.bits .xor .u8 (rd (frameOf a0 a1 c) (k8 : Int)) x2 ∧ Go.bits .xor .u8 (rd (frameOf a0 a1 c) (k8 : Int)) x2 ≤ 255 := by
      rw [hv]
      omega
    have hS := spoilt_read a0 a1 c hk (by omega) bc k8 (by omega) _ hvb hne
    have hyb : isByte ((frameOf a0 a1 c).set k8 (Go.bits .xor .u8 (rd (frameOf a0 a1 c) (k8 : Int)) x2)) := by
      intro y hy
      rcases List.mem_or_eq_of_mem_set hy with hy | rfl
      · exact hby y hy
      · exact hvb
    have hR := Read_ _ 0 hyb (by rw [List.length_set, hL]; omega)
    rw [show readOf ((frameOf a0 a1 c).set k8 (Go.bits .xor .u8 (rd (frameOf a0 a1 c) (k8 : Int)) x2)) 0 = readAt ((frameOf a0 a1 c).set k8 (Go.bits .xor .u8 (rd (frameOf a0 a1 c) (k8 : Int)) x2)) 0 from by
      unfold readOf
      rw [if_neg (by omega)]
      rfl] at hR
    refine Ev.bind hR ?_
    by_cases hok : (readAt ((frameOf a0 a1 c).set k8 (Go.bits .xor .u8 (rd (frameOf a0 a1 c) (k8 : Int)) x2)) 0).2.2.2.2 = 0
    · obtain ⟨q1, q2, q3⟩ := hS hok
      simp only [if_pos hok, if_pos (show (k8 : Int) ≥ 12 by omega), if_pos (show (k8 : Int) < 16 by omega)]
      rw [decide_eq_true (by omega)]
      exact Ev.now _
    · simp only [if_neg hok]
      exact Ev.now _
end Go.Proofs.Ytcajcbeioilgmaa.Pure
