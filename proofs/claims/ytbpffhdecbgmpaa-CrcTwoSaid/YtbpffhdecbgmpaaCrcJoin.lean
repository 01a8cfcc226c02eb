/- Joined sums: a matrix stands for a linear map of 32 bits; done two times, it stands for the map done two times; so Join's first sum goes through 8 n bits of zeros. -/
import Derived.Test.YtbpffhdecbgmpaaCrc
import Derived.Laws.BitsLemmas
import Derived.Test.YtbpffhdecbgmpaaFx5
namespace Go.Proofs.Ytbpffhdecbgmpaa.Crc
open Go.RowKit Go.Proofs.Ytbpffhdecbgmpaa.F Go.Proofs.YtbpffhdecbgmpaaW.PrintWords Go.Proofs.YtbpffhdecbgmpaaW.PrintLast Go.Proofs.YtbpffhdecbgmpaaW.PrintMore

def lin : List (BitVec 32) → BitVec 32 → BitVec 32
  | [], _ => 0#32
  | m :: ms, s => (if s.getLsbD 0 then m else 0#32) ^^^ lin ms (s >>> 1)
theorem lin_zero (ms : List (BitVec 32)) : lin ms 0#32 = 0#32 := by
  induction ms with
  | nil => rfl
  | cons m ms ih =>
    rw [lin, show (0#32) >>> 1 = 0#32 from rfl, ih]
    simp
theorem I_zero {s : BitVec 32} : I s = 0 ↔ s = 0#32 :=
  ⟨fun h => I_inj (h.trans (show (0 : Int) = I 0#32 from rfl)), fun h => by rw [h]; rfl⟩
theorem low_bit (s : BitVec 32) : Go.bits .and .u32 (I s) 1 = 1 ↔ s.getLsbD 0 = true := by
  have h1 : Go.bits .and .u32 (I s) 1 = I s % 2 := bits_mask .u32 32 (by decide) (fun n h0 h1 => by rw [IntKind.wrap_u32]; omega) 1 (by decide) (I s) (I_range s).1 (I_range s).2
  rw [h1]
  unfold I
  rw [BitVec.getLsbD, Nat.testBit_zero]
  simp
  omega
theorem tm_lin (ms : List (BitVec 32)) : ∀ s o : BitVec 32, crc_Join.tm (ms.map I) (I s) (I o) = I (o ^^^ lin ms s) := by
  induction ms with
  | nil => intro s o; simp [crc_Join.tm, lin]
  | cons m ms ih =>
    intro s o
    rw [List.map_cons, crc_Join.tm]
    by_cases h0 : I s = 0
    · rw [if_pos h0, I_zero.1 h0, lin_zero, BitVec.xor_zero]
    · rw [if_neg h0, I_shift s 1 2 (by decide)]
      by_cases h1 : s.getLsbD 0 = true
      · rw [if_pos ((low_bit s).2 h1), xor_I, ofInt_I, ofInt_I, ih, lin, if_pos h1, BitVec.xor_assoc]
      · rw [if_neg (fun z => h1 ((low_bit s).1 z)), ih, lin, if_neg h1, BitVec.zero_xor]
def two (i : Nat) : BitVec 32 := BitVec.twoPow 32 i
def rep (φ : BitVec 32 → BitVec 32) : List (BitVec 32) := (List.range 32).map fun i => φ (two i)
theorem split_bit (s : BitVec 32) (i : Nat) (hi : i < 32) : (s >>> i) <<< i = (if (s >>> i).getLsbD 0 then two i else 0#32) ^^^ ((s >>> (i + 1)) <<< (i + 1)) := by
  have hb : (s >>> i).getLsbD 0 = s.getLsbD i := by rw [BitVec.getLsbD_ushiftRight, Nat.add_zero]
  rw [hb]
  ext j hj
  simp only [BitVec.getElem_xor, BitVec.getElem_shiftLeft, BitVec.getElem_ushiftRight]
  by_cases h1 : j < i
  · have hne : ¬ j = i := by omega
    cases s.getLsbD i <;> simp [h1, show j < i + 1 by omega, two, BitVec.getElem_twoPow, hne]
  · by_cases h2 : j = i
    · subst h2
      cases hs : s.getLsbD j
      · simp [hs]
      · simp [two, BitVec.getElem_twoPow, hs]
    · have hne : ¬ j = i := by omega
      have e : i + 1 + (j - (i + 1)) = i + (j - i) := by omega
      cases s.getLsbD i <;> simp [h1, show ¬ j < i + 1 by omega, two, BitVec.getElem_twoPow, hne, e]
theorem lin_from (φ : BitVec 32 → BitVec 32) (hφ : ∀ a b, φ (a ^^^ b) = φ a ^^^ φ b) (s : BitVec 32) (d : Nat) : ∀ i : Nat, i + d = 32 → lin ((rep φ).drop i) (s >>> i) = φ ((s >>> i) <<< i) := by
  have h0 : φ 0#32 = 0#32 := by
    have := hφ 0#32 0#32
    rw [BitVec.xor_self, BitVec.xor_self] at this
    exact this
  induction d with
  | zero =>
    intro i h
    have hi : i = 32 := by omega
    subst hi
    have e : s >>> 32 = 0#32 := by
      ext j hj
      simp
    rw [e, lin_zero, show (0#32) <<< 32 = 0#32 from rfl, h0]
  | succ d ih =>
    intro i h
    have hl : (rep φ).length = 32 := by simp [rep]
    have hi : i < (rep φ).length := by omega
    have e : (rep φ)[i] = φ (two i) := by simp [rep]
    rw [List.drop_eq_getElem_cons hi, lin, e, ← BitVec.shiftRight_add, ih (i + 1) (by omega), split_bit s i (by omega), hφ]
    cases (s >>> i).getLsbD 0
    · simp [h0]
    · rfl
theorem lin_rep (φ : BitVec 32 → BitVec 32) (hφ : ∀ a b, φ (a ^^^ b) = φ a ^^^ φ b) (s : BitVec 32) : lin (rep φ) s = φ s := by
  have h := lin_from φ hφ s 32 0 rfl
  simpa using h
theorem tm_rep (φ : BitVec 32 → BitVec 32) (hφ : ∀ a b, φ (a ^^^ b) = φ a ^^^ φ b) (s : BitVec 32) : crc_Join.tm ((rep φ).map I) (I s) 0 = I (φ s) := by
  have h := tm_lin (rep φ) s 0#32
  rw [lin_rep φ hφ, BitVec.zero_xor] at h
  exact h
theorem rep_twice (φ : BitVec 32 → BitVec 32) : (rep fun s => φ (φ s)) = (rep φ).map φ := by
  unfold rep
  rw [List.map_map]
  rfl
theorem tw_map (ms : List (BitVec 32)) (φ : BitVec 32 → BitVec 32) (h : ∀ s, crc_Join.tm (ms.map I) (I s) 0 = I (φ s)) : crc_Join.tw (ms.map I) = (ms.map φ).map I := by
  unfold crc_Join.tw
  rw [List.map_map, List.map_map]
  apply List.map_congr_left
  intro s _
  exact h s
theorem tw_rep (φ : BitVec 32 → BitVec 32) (hφ : ∀ a b, φ (a ^^^ b) = φ a ^^^ φ b) : crc_Join.tw ((rep φ).map I) = (rep fun s => φ (φ s)).map I := by
  rw [rep_twice, tw_map (rep φ) φ (tm_rep φ hφ)]
theorem zl_rep : crc_Join.zl = (rep (steps 1)).map I := by decide +kernel
theorem odd_i64 (n : Int) (h0 : 0 ≤ n) (h1 : n < 9223372036854775808) : Go.bits .and .i64 n 1 = n % 2 :=
  bits_mask .i64 63 (by decide) (fun n h0 h1 => by rw [IntKind.wrap_i64]; omega) 1 (by decide) n h0 h1
theorem jn_steps (k : Nat) : ∀ (m n : Nat) (a : BitVec 32), n < 2 ^ k → n < 1000000000 → crc_Join.jn k ((rep (steps m)).map I) (I a) (n : Int) = I (steps (m * n) a) := by
  induction k with
  | zero =>
    intro m n a h _
    have hn : n = 0 := by omega
    subst hn
    rfl
  | succ k ih =>
    intro m n a h hb
    by_cases h0 : n = 0
    · subst h0
      rw [Nat.mul_zero]
      show crc_Join.jn (k + 1) _ _ 0 = _
      rw [crc_Join.jn_zero]
      rfl
    · have hst : (fun s => steps m (steps m s)) = steps (m + m) := by
        funext s
        rw [steps_add]
      rw [crc_Join.jn, if_pos (by omega), tw_rep _ (steps_xor m), hst, odd_i64 _ (by omega) (by omega), tm_rep _ (steps_xor m), show ((n : Int) / 2) = ((n / 2 : Nat) : Int) by omega]
      have hp : n / 2 < 2 ^ k := by
        rw [Nat.pow_succ] at h
        omega
      by_cases h1 : (n : Int) % 2 = 1
      · rw [if_pos h1, ih (m + m) (n / 2) _ hp (by omega), ← steps_add]
        have e : n = 2 * (n / 2) + 1 := by omega
        have e2 : m + (m + m) * (n / 2) = m * n := by
          conv => rhs; rw [e]
          rw [Nat.mul_add, Nat.mul_one, ← Nat.mul_assoc, Nat.mul_two, Nat.add_comm]
        rw [e2]
      · rw [if_neg h1, ih (m + m) (n / 2) _ hp (by omega)]
        have e : n = 2 * (n / 2) := by omega
        have e2 : (m + m) * (n / 2) = m * n := by
          conv => rhs; rw [e]
          rw [← Nat.mul_assoc, Nat.mul_two]
        rw [e2]
theorem join_ (a b : BitVec 32) (n : Nat) (hn : n ≤ 16777216) : crc_Join.f (I a) (I b) (n : Int) = some (I (steps (8 * n) a ^^^ b), 0) := by
  unfold crc_Join.f
  have hr := I_range a
  have h := jn_steps 28 1 (8 * n) a (by omega) (by omega)
  rw [Nat.one_mul] at h
  rw [if_neg (by omega), if_pos hr, zl_rep, show 8 * (n : Int) = ((8 * n : Nat) : Int) by omega, h, xor_I, ofInt_I, ofInt_I]
/-- The bytes' sum from any sum on: what that sum becomes, and the bytes' own. -/
theorem raw_split (l : List Int) : ∀ s t : BitVec 32, raw (s ^^^ t) l = steps (8 * l.length) s ^^^ raw t l := by
  induction l with
  | nil => intro s t; rfl
  | cons c l ih =>
    intro s t
    rw [raw_cons, raw_cons, BitVec.xor_assoc, steps_xor, ih, ← steps_add, List.length_cons, show 8 + 8 * l.length = 8 * (l.length + 1) by omega]
theorem sum_join (l m : List Int) : steps (8 * m.length) (sum 0#32 l) ^^^ sum 0#32 m = sum 0#32 (l ++ m) := by
  rw [sum_append]
  generalize sum 0#32 l = s
  unfold sum
  have h := raw_split m s (~~~(0#32))
  have e : s ^^^ ~~~(0#32) = ~~~s := by
    rw [show ~~~(0#32) = BitVec.allOnes 32 from by decide, BitVec.xor_allOnes]
  rw [e] at h
  rw [h]
  ext i hi
  simp
end Go.Proofs.Ytbpffhdecbgmpaa.Crc
