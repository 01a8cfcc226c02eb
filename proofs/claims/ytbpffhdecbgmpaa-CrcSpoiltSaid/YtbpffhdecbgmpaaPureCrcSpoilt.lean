/- CrcSpoilt: any bytes (at most 16,384 are looked at) that were sealed are not opened, if some of four bytes side by side are others: the answer is the error of a sum that is another one, and no bytes. No condition. -/
import Derived.Test.YtbpffhdecbgmpaaCrcLaw
import Derived.Test.YtbpffhdecbgmpaaCrcSeal
import Derived.Test.YtbpffhdecbgmpaaBytes
import Derived.Laws.BitsAllLaws
import Derived.Test.YtbpffhdecbgmpaaFx11
namespace Go.Proofs.Ytbpffhdecbgmpaa.Pure
open Go.RowKit Go.Proofs.Ytbpffhdecbgmpaa.F Go.Proofs.Ytbpffhdecbgmpaa.Crc Go.Proofs.Ytbpffhdecbgmpaa.Bytes Go.Proofs.YtbpffhdecbgmpaaW.PrintWords Go.Proofs.YtbpffhdecbgmpaaW.PrintLast Go.Proofs.YtbpffhdecbgmpaaW.PrintMore

theorem four (l : List Int) (k : Nat) (h : k + 4 ≤ l.length) : ∃ p c0 c1 c2 c3 z, l = p ++ [c0, c1, c2, c3] ++ z ∧ p.length = k := by
  refine ⟨l.take k, l[k], l[k + 1], l[k + 2], l[k + 3], l.drop (k + 4), ?_, by rw [List.length_take]; omega⟩
  simp
def xb (x c : Int) (i : Nat) : Int := Go.bits .xor .u8 c ((x / 2 ^ (8 * i)) % 256)
theorem xb_I (x : BitVec 32) (c : Int) (hc : 0 ≤ c ∧ c ≤ 255) (i : Nat) : 0 ≤ xb (I x) c i ∧ xb (I x) c i ≤ 255 ∧ BitVec.ofInt 32 (xb (I x) c i) = BitVec.ofInt 32 c ^^^ ((x >>> (8 * i)) &&& 255#32) := by
  have h1 : I x / 2 ^ (8 * i) = I (x >>> (8 * i)) := I_shift x (8 * i) _ (by push_cast; rfl)
  have h2 := I_range (x >>> (8 * i))
  unfold xb
  rw [h1, u8_xor c _ hc.1 (by omega) (by omega) (by omega)]
  have hlt : c.toNat ^^^ (I (x >>> (8 * i)) % 256).toNat < 2 ^ 8 := Nat.xor_lt_two_pow (by omega) (by omega)
  refine ⟨by omega, by omega, ?_⟩
  rw [← I_mod256]
  apply BitVec.eq_of_toNat_eq
  rw [BitVec.toNat_xor, BitVec.toNat_ofInt, BitVec.toNat_ofInt, BitVec.toNat_ofInt]
  have a1 : ((c.toNat ^^^ (I (x >>> (8 * i)) % 256).toNat : Nat) : Int) % ((2 ^ 32 : Nat) : Int) = ((c.toNat ^^^ (I (x >>> (8 * i)) % 256).toNat : Nat) : Int) := by omega
  have a2 : c % ((2 ^ 32 : Nat) : Int) = c := by omega
  have a3 : (I (x >>> (8 * i)) % 256) % ((2 ^ 32 : Nat) : Int) = I (x >>> (8 * i)) % 256 := by omega
  rw [a1, a2, a3, Int.toNat_natCast]
theorem comp_xor (a0 a1 a2 a3 b0 b1 b2 b3 : BitVec 32) : comp (a0 ^^^ b0) (a1 ^^^ b1) (a2 ^^^ b2) (a3 ^^^ b3) = comp a0 a1 a2 a3 ^^^ comp b0 b1 b2 b3 := by
  unfold comp
  simp only [BitVec.shiftLeft_xor_distrib]
  apply BitVec.eq_of_getLsbD_eq
  intro i hi
  simp only [BitVec.getLsbD_xor]
  generalize a0.getLsbD i = p0
  generalize b0.getLsbD i = q0
  generalize (a1 <<< 8).getLsbD i = p1
  generalize (b1 <<< 8).getLsbD i = q1
  generalize (a2 <<< 16).getLsbD i = p2
  generalize (b2 <<< 16).getLsbD i = q2
  generalize (a3 <<< 24).getLsbD i = p3
  generalize (b3 <<< 24).getLsbD i = q3
  cases p0 <;> cases q0 <;> cases p1 <;> cases q1 <;> cases p2 <;> cases q2 <;> cases p3 <;> cases q3 <;> rfl
theorem spoilt_comp (x : BitVec 32) (c0 c1 c2 c3 : Int) (h0 : 0 ≤ c0 ∧ c0 ≤ 255) (h1 : 0 ≤ c1 ∧ c1 ≤ 255) (h2 : 0 ≤ c2 ∧ c2 ≤ 255) (h3 : 0 ≤ c3 ∧ c3 ≤ 255) :
    comp4 (xb (I x) c0 0) (xb (I x) c1 1) (xb (I x) c2 2) (xb (I x) c3 3) = comp4 c0 c1 c2 c3 ^^^ x := by
  unfold comp4
  rw [(xb_I x c0 h0 0).2.2, (xb_I x c1 h1 1).2.2, (xb_I x c2 h2 2).2.2, (xb_I x c3 h3 3).2.2, comp_xor]
  have := comp_self x
  simp only [Nat.mul_zero, Nat.mul_one, BitVec.ushiftRight_zero, show 8 * 2 = 16 from rfl, show 8 * 3 = 24 from rfl]
  rw [this]
theorem set_at (p : List Int) (c : Int) (z : List Int) (v : Int) : (p ++ c :: z).set p.length v = p ++ v :: z := by
  induction p with
  | nil => rfl
  | cons a p ih => simp [ih]
theorem rd_at (p : List Int) (c : Int) (z : List Int) : rd (p ++ c :: z) (p.length : Int) = c := by
  rw [getD_rd]
  simp
/-- One round: the byte at place p.length is turned. -/
theorem turn (x : Int) (p z : List Int) (c : Int) (k8 i : Nat) (hk : k8 + i = p.length) (hi : i < 4) (hl : (p ++ c :: z).length ≤ 20000) (k : Nat) :
    plinthlaw02_CrcSpoilt.l0 (k + 1) x (p ++ c :: z) (k8 : Int) (i : Int) = plinthlaw02_CrcSpoilt.l0 k x (p ++ xb x c i :: z) (k8 : Int) ((i + 1 : Nat) : Int) := by
  have hp : p.length < (p ++ c :: z).length := by simp
  have hw : wrap64 ((k8 : Int) + (i : Int)) = (p.length : Int) := by
    unfold wrap64
    omega
  have h8 : IntKind.u64.wrap (wrap64 (8 * (i : Int))) = ((8 * i : Nat) : Int) := by
    rw [IntKind.wrap_u64]
    unfold wrap64
    omega
  rw [plinthlaw02_CrcSpoilt.l0, if_pos (by omega), hw, if_pos (by omega), if_pos (by omega), h8, if_pos (by omega), rd_at, Int.toNat_natCast, set_at, wrap_one i 4 hi (by omega)]
  have hs : shr .u32 x ((8 * i : Nat) : Int) = x / 2 ^ (8 * i) := by
    unfold shr
    rw [Int.toNat_natCast, Nat.min_eq_left (by simp [IntKind.bits]; omega)]
  rw [hs]
  rfl
theorem CrcSpoilt : plinthlaw02_CrcSpoilt.Pure := by
  intro l0 a1 a2 _ _ hb ha1 ha2
  obtain ⟨c0, h0, hc0, he⟩ := cut_some l0
  have hbc : isByte c0 := by rw [he]; exact isByte_take _ (isByte_of hb)
  have hS := seal_ c0 (by omega)
  have r1 := bounds_u16 ha1
  have r2 := bounds_u32 ha2
  have hx : a2 = I (BitVec.ofInt 32 a2) := by rw [I_ofInt]; omega
  refine Ev.rounds (g := fun k => plinthlaw02_CrcSpoilt.f k l0 a1 a2) ?_
  unfold plinthlaw02_CrcSpoilt.f
  refine Ev.bind awake ?_
  simp only [if_true, h0, Option.bind_some]
  refine Ev.bind hS ?_
  have hsl := sealed_length c0
  by_cases hz : a2 = 0
  · simp only [if_pos hz]
    refine Ev.step (f := fun _ => some true) (fun k => ?_) (Ev.now _)
    rw [plinthlaw02_CrcSpoilt.j0, if_pos rfl]
    simp only [Option.some.injEq, decide_eq_true_eq]
    omega
  · have hd : decide (((sealed c0).length : Int) < 4) = false := decide_eq_false (by omega)
    simp only [if_neg hz, hd]
    have hm : wrap64 (((sealed c0).length : Int) - 3) = ((c0.length + 1 : Nat) : Int) := by
      unfold wrap64
      omega
    obtain ⟨k8, hk8⟩ : ∃ k8 : Nat, Int.tmod (wrap64 a1) ((c0.length + 1 : Nat) : Int) = (k8 : Int) ∧ k8 ≤ c0.length := by
      have hw : wrap64 a1 = a1 := by unfold wrap64; omega
      rw [hw, Int.tmod_eq_emod_of_nonneg r1.1]
      have e1 := Int.emod_nonneg a1 (show ((c0.length + 1 : Nat) : Int) ≠ 0 by omega)
      have e2 := Int.emod_lt_of_pos a1 (show (0 : Int) < ((c0.length + 1 : Nat) : Int) by omega)
      exact ⟨(a1 % ((c0.length + 1 : Nat) : Int)).toNat, by omega, by omega⟩
    obtain ⟨p, b0, b1, b2, b3, z, hs, hp⟩ := four (sealed c0) k8 (by omega)
    have hby : isByte (sealed c0) := by
      refine isByte_append hbc ?_
      intro x hx
      simp only [le32, List.mem_cons, List.not_mem_nil, or_false] at hx
      rcases hx with rfl | rfl | rfl | rfl <;> omega
    have hB0 := hby b0 (by rw [hs]; simp)
    have hB1 := hby b1 (by rw [hs]; simp)
    have hB2 := hby b2 (by rw [hs]; simp)
    have hB3 := hby b3 (by rw [hs]; simp)
    have hX0 := xb_I (BitVec.ofInt 32 a2) b0 hB0 0
    have hX1 := xb_I (BitVec.ofInt 32 a2) b1 hB1 1
    have hX2 := xb_I (BitVec.ofInt 32 a2) b2 hB2 2
    have hX3 := xb_I (BitVec.ofInt 32 a2) b3 hB3 3
    have hC := spoilt_comp (BitVec.ofInt 32 a2) b0 b1 b2 b3 hB0 hB1 hB2 hB3
    rw [← hx] at hX0 hX1 hX2 hX3 hC
    have hne : comp4 b0 b1 b2 b3 ≠ comp4 (xb a2 b0 0) (xb a2 b1 1) (xb a2 b2 2) (xb a2 b3 3) := by
      rw [hC]
      intro e
      have e2 : comp4 b0 b1 b2 b3 ^^^ 0#32 = comp4 b0 b1 b2 b3 ^^^ BitVec.ofInt 32 a2 := by rw [BitVec.xor_zero]; exact e
      have e3 := xor_left e2
      apply hz
      rw [hx, ← e3]
      rfl
    have hlen : (p ++ [xb a2 b0 0, xb a2 b1 1, xb a2 b2 2, xb a2 b3 3] ++ z).length = c0.length + 4 := by
      rw [← hsl, hs]
      simp
    have hO := open_ (p ++ [xb a2 b0 0, xb a2 b1 1, xb a2 b2 2, xb a2 b3 3] ++ z) (by omega)
    have hres : opened (p ++ [xb a2 b0 0, xb a2 b1 1, xb a2 b2 2, xb a2 b3 3] ++ z) = ([], 31) := by
      unfold opened
      rw [if_neg (by omega), if_neg (spoilt_not c0 p z b0 b1 b2 b3 _ _ _ _ hs hB1 hB2 hB3 ⟨hX1.1, hX1.2.1⟩ ⟨hX2.1, hX2.2.1⟩ ⟨hX3.1, hX3.2.1⟩ hne _)]
    rw [hres] at hO
    have e1 : (p ++ [b0, b1, b2, b3] ++ z).length ≤ 20000 := by rw [← hs]; omega
    refine Ev.step (f := fun k => plinthlaw02_CrcSpoilt.l0 k a2 (p ++ b0 :: (b1 :: b2 :: b3 :: z)) (k8 : Int) ((0 : Nat) : Int)) (fun k => ?_) ?_
    · rw [plinthlaw02_CrcSpoilt.j0, if_neg (by decide), hm, if_neg (by omega), hk8.1, hs]
      simp
    · have st0 : ∀ k, plinthlaw02_CrcSpoilt.l0 (k + 1) a2 (p ++ b0 :: (b1 :: b2 :: b3 :: z)) (k8 : Int) ((0 : Nat) : Int) = plinthlaw02_CrcSpoilt.l0 k a2 ((p ++ [xb a2 b0 0]) ++ b1 :: (b2 :: b3 :: z)) (k8 : Int) ((0 + 1 : Nat) : Int) := fun k => by
        rw [turn a2 p (b1 :: b2 :: b3 :: z) b0 k8 0 (by omega) (by omega) (by simp at e1 ⊢; omega) k]
        simp
      have st1 : ∀ k, plinthlaw02_CrcSpoilt.l0 (k + 1) a2 ((p ++ [xb a2 b0 0]) ++ b1 :: (b2 :: b3 :: z)) (k8 : Int) ((0 + 1 : Nat) : Int) = plinthlaw02_CrcSpoilt.l0 k a2 ((p ++ [xb a2 b0 0, xb a2 b1 1]) ++ b2 :: (b3 :: z)) (k8 : Int) ((1 + 1 : Nat) : Int) := fun k => by
        rw [turn a2 (p ++ [xb a2 b0 0]) (b2 :: b3 :: z) b1 k8 (0 + 1) (by simp; omega) (by omega) (by simp at e1 ⊢; omega) k]
        simp
      have st2 : ∀ k, plinthlaw02_CrcSpoilt.l0 (k + 1) a2 ((p ++ [xb a2 b0 0, xb a2 b1 1]) ++ b2 :: (b3 :: z)) (k8 : Int) ((1 + 1 : Nat) : Int) = plinthlaw02_CrcSpoilt.l0 k a2 ((p ++ [xb a2 b0 0, xb a2 b1 1, xb a2 b2 2]) ++ b3 :: z) (k8 : Int) ((2 + 1 : Nat) : Int) := fun k => by
        rw [turn a2 (p ++ [xb a2 b0 0, xb a2 b1 1]) (b3 :: z) b2 k8 (1 + 1) (by simp; omega) (by omega) (by simp at e1 ⊢; omega) k]
        simp
      have st3 : ∀ k, plinthlaw02_CrcSpoilt.l0 (k + 1) a2 ((p ++ [xb a2 b0 0, xb a2 b1 1, xb a2 b2 2]) ++ b3 :: z) (k8 : Int) ((2 + 1 : Nat) : Int) = plinthlaw02_CrcSpoilt.l0 k a2 (p ++ [xb a2 b0 0, xb a2 b1 1, xb a2 b2 2, xb a2 b3 3] ++ z) (k8 : Int) ((3 + 1 : Nat) : Int) := fun k => by
        rw [turn a2 (p ++ [xb a2 b0 0, xb a2 b1 1, xb a2 b2 2]) z b3 k8 (2 + 1) (by simp; omega) (by omega) (by simp at e1 ⊢; omega) k]
        simp
      refine Ev.step st0 (Ev.step st1 (Ev.step st2 (Ev.step st3 ?_)))
      refine Ev.step (f := fun k => (crc_Open.f k (p ++ [xb a2 b0 0, xb a2 b1 1, xb a2 b2 2, xb a2 b3 3] ++ z)).bind fun bt => if bt.2 = 31 then some ((bt.1.length : Int) == 0) else some false) (fun k => ?_) ?_
      · rw [plinthlaw02_CrcSpoilt.l0, if_neg (by decide)]
      · refine Ev.bind hO ?_
        simp only [if_true]
        exact Ev.now _
end Go.Proofs.Ytbpffhdecbgmpaa.Pure
