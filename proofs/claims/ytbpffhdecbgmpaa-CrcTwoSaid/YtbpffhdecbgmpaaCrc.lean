/- The sums (CRC-32C), as 32 bits: one bit, n bits, a byte, bytes; linear, and told again by the printed functions. -/
import Derived.Test.YtbpffhdecbgmpaaFx2
import Derived.Test.YtbpffhdecbgmpaaFx3
import Derived.Test.YtbpffhdecbgmpaaFx1
namespace Go.Proofs.Ytbpffhdecbgmpaa.Crc
open Go.RowKit Go.Proofs.Ytbpffhdecbgmpaa.F Go.Proofs.YtbpffhdecbgmpaaW.PrintWords Go.Proofs.YtbpffhdecbgmpaaW.PrintLast Go.Proofs.YtbpffhdecbgmpaaW.PrintMore

def poly : BitVec 32 := 2197175160#32
def step (s : BitVec 32) : BitVec 32 := (s >>> 1) ^^^ (if s.getLsbD 0 then poly else 0#32)
def steps : Nat → BitVec 32 → BitVec 32
  | 0, s => s
  | n + 1, s => steps n (step s)
theorem step_xor (a b : BitVec 32) : step (a ^^^ b) = step a ^^^ step b := by
  unfold step
  rw [BitVec.ushiftRight_xor_distrib, BitVec.getLsbD_xor]
  cases a.getLsbD 0 <;> cases b.getLsbD 0
  · simp
  · simp [BitVec.xor_assoc]
  · simp only [Bool.xor_false, if_true, Bool.false_eq_true, if_false, BitVec.xor_zero]
    rw [BitVec.xor_assoc, BitVec.xor_assoc, BitVec.xor_comm poly]
  · simp only [Bool.xor_self, if_true, Bool.false_eq_true, if_false, BitVec.xor_zero]
    rw [BitVec.xor_assoc, ← BitVec.xor_assoc poly, BitVec.xor_comm poly, BitVec.xor_assoc, BitVec.xor_self, BitVec.xor_zero]
theorem steps_xor (n : Nat) : ∀ a b : BitVec 32, steps n (a ^^^ b) = steps n a ^^^ steps n b := by
  induction n with
  | zero => intro a b; rfl
  | succ n ih => intro a b; rw [steps, steps, steps, step_xor, ih]
theorem steps_add (m n : Nat) : ∀ s, steps (m + n) s = steps n (steps m s) := by
  induction m with
  | zero => intro s; rw [Nat.zero_add]; rfl
  | succ m ih => intro s; rw [Nat.succ_add, steps, ih, steps]
theorem step_even {s : BitVec 32} (h : s.getLsbD 0 = false) : step s = s >>> 1 := by
  unfold step
  rw [h]
  simp
theorem steps_shift (n : Nat) : ∀ s : BitVec 32, (∀ i, i < n → s.getLsbD i = false) → steps n s = s >>> n := by
  induction n with
  | zero => intro s _; simp [steps]
  | succ n ih =>
    intro s h
    rw [steps, step_even (h 0 (by omega)), ih]
    · rw [← BitVec.shiftRight_add, Nat.add_comm]
    · intro i hi
      rw [BitVec.getLsbD_ushiftRight]
      exact h _ (by omega)
/-- A sum's low bits, and the others. -/
theorem steps_low (n : Nat) (s m : BitVec 32) (hm : ∀ i, i < 32 → m.getLsbD i = decide (i < n)) : (s >>> n) ^^^ steps n (s &&& m) = steps n s := by
  have h1 : s = (s &&& ~~~m) ^^^ (s &&& m) := by
    ext i hi
    have := hm i hi
    simp only [BitVec.getElem_xor, BitVec.getElem_and, BitVec.getElem_not]
    cases s[i] <;> cases m[i] <;> rfl
  have h2 : steps n (s &&& ~~~m) = s >>> n := by
    rw [steps_shift n (s &&& ~~~m)]
    · ext i hi
      simp only [BitVec.getElem_ushiftRight, BitVec.getLsbD_and, BitVec.getLsbD_not]
      by_cases h : n + i < 32
      · rw [hm _ h]
        simp [h]
      · rw [BitVec.getLsbD_of_ge s _ (by omega)]
        simp
    · intro i hi
      rw [BitVec.getLsbD_and, BitVec.getLsbD_not]
      by_cases h : i < 32
      · rw [hm _ h]
        simp [hi]
      · simp [h]
  have h3 := steps_xor n (s &&& ~~~m) (s &&& m)
  rw [← h1, h2] at h3
  exact h3.symm

/-! ### numbers -/
def I (s : BitVec 32) : Int := (s.toNat : Int)
theorem I_range (s : BitVec 32) : 0 ≤ I s ∧ I s < 4294967296 := by
  unfold I
  have := s.isLt
  omega
theorem I_inj {a b : BitVec 32} (h : I a = I b) : a = b := BitVec.eq_of_toNat_eq (by unfold I at h; omega)
theorem ofInt_I (s : BitVec 32) : BitVec.ofInt 32 (I s) = s := by unfold I; simp
theorem I_ofInt (n : Int) : I (BitVec.ofInt 32 n) = n % 4294967296 := by
  unfold I
  rw [BitVec.toNat_ofInt]
  omega
theorem back (s : BitVec 32) : IntKind.u32.wrap (s.toNat : Int) = I s := by
  have := s.isLt
  unfold I
  rw [IntKind.wrap_u32]
  omega
theorem xor_I (x y : Int) : Go.bits .xor .u32 x y = I (BitVec.ofInt 32 x ^^^ BitVec.ofInt 32 y) := back _
theorem and_I (x y : Int) : Go.bits .and .u32 x y = I (BitVec.ofInt 32 x &&& BitVec.ofInt 32 y) := back _
theorem I_shift (s : BitVec 32) (n : Nat) (m : Int) (h : ((2 ^ n : Nat) : Int) = m) : I s / m = I (s >>> n) := by
  unfold I
  rw [BitVec.toNat_ushiftRight, Nat.shiftRight_eq_div_pow, ← h]
  rfl
theorem ofInt_mod (c : Int) : BitVec.ofInt 32 (c % 4294967296) = BitVec.ofInt 32 c := by
  rw [← I_ofInt, ofInt_I]

theorem ones_xor (s : BitVec 32) : BitVec.ofInt 32 4294967295 ^^^ s = ~~~s := by
  have h : BitVec.ofInt 32 4294967295 = BitVec.allOnes 32 := by decide
  rw [h, BitVec.allOnes_xor]

/-! ### bytes -/
def raw (s : BitVec 32) (l : List Int) : BitVec 32 := l.foldl (fun s c => steps 8 (s ^^^ BitVec.ofInt 32 c)) s
theorem raw_nil (s : BitVec 32) : raw s [] = s := rfl
theorem raw_cons (s : BitVec 32) (c : Int) (l : List Int) : raw s (c :: l) = raw (steps 8 (s ^^^ BitVec.ofInt 32 c)) l := rfl
theorem raw_append (s : BitVec 32) (l m : List Int) : raw s (l ++ m) = raw (raw s l) m := List.foldl_append
def sum (s : BitVec 32) (l : List Int) : BitVec 32 := ~~~(raw (~~~s) l)
theorem sum_append (s : BitVec 32) (l m : List Int) : sum s (l ++ m) = sum (sum s l) m := by
  unfold sum
  rw [raw_append, BitVec.not_not]
theorem sum_nil (s : BitVec 32) : sum s [] = s := by
  unfold sum
  rw [raw_nil, BitVec.not_not]
def sumAll (l : List (List Int)) : BitVec 32 := l.foldl sum 0#32
theorem sumAll_flat (l : List (List Int)) : ∀ s, l.foldl sum s = sum s l.flatten := by
  induction l with
  | nil => intro s; simp [sum_nil]
  | cons b l ih => intro s; rw [List.foldl_cons, ih, List.flatten_cons, sum_append]

/-! ### the functions -/
theorem nibble_low (i : Fin 16) : crc_nibble.f (I (BitVec.ofNat 32 i.val)) = some (I (steps 4 (BitVec.ofNat 32 i.val))) := by
  revert i
  decide +kernel
theorem nibble_some (e : BitVec 32) : crc_nibble.f (I (e &&& 15#32)) = some (I (steps 4 (e &&& 15#32))) := by
  have h : (e &&& 15#32).toNat < 16 := by
    rw [BitVec.toNat_and]
    exact Nat.lt_of_le_of_lt Nat.and_le_right (by decide)
  have := nibble_low ⟨_, h⟩
  simpa using this
theorem low15 : ∀ i, i < 32 → (15#32).getLsbD i = decide (i < 4) := by decide
theorem getD_rd (l : List Int) (i : Nat) : rd l (i : Int) = l.getD i 0 := by simp [rd]
theorem drop_cons (l : List Int) (i : Nat) (h : i < l.length) : l.drop i = rd l (i : Int) :: l.drop (i + 1) := by
  rw [getD_rd, List.drop_eq_getElem_cons h]
  simp [h]
theorem wrap_one (i n : Nat) (h : i < n) (hn : n ≤ 9223372036854775807) : wrap64 ((i : Int) + 1) = ((i + 1 : Nat) : Int) := by
  unfold wrap64
  omega
theorem more_from (l : List Int) (hl : l.length ≤ 9223372036854775807) (d : Nat) : ∀ (i : Nat) (s : BitVec 32), i + d = l.length →
    Ev (fun k => crc_More.l0 k (I s) l (l.length : Int) (i : Int)) (I (~~~(raw s (l.drop i)))) := by
  induction d with
  | zero =>
    intro i s h
    refine Ev.step (f := fun _ => some (I (~~~(raw s (l.drop i))))) (fun k => ?_) (Ev.now _)
    rw [crc_More.l0, if_neg (by omega), xor_I, ofInt_I, List.drop_of_length_le (by omega), raw_nil, ones_xor]
  | succ d ih =>
    intro i s h
    have hi : i < l.length := by omega
    refine Ev.step (f := fun k => crc_More.l0 k (I (steps 8 (s ^^^ BitVec.ofInt 32 (rd l (i : Int))))) l (l.length : Int) ((i + 1 : Nat) : Int)) (fun k => ?_) ?_
    · rw [crc_More.l0, if_pos (by omega), if_pos (by omega), if_pos (by omega), xor_I, ofInt_I, ofInt_mod]
      generalize s ^^^ BitVec.ofInt 32 (rd l (i : Int)) = e
      rw [and_I, ofInt_I, show BitVec.ofInt 32 15 = 15#32 from rfl, nibble_some, Option.bind_some, I_shift e 4 16 (by decide), xor_I, ofInt_I, ofInt_I,
        steps_low 4 e 15#32 low15, and_I, ofInt_I, show BitVec.ofInt 32 15 = 15#32 from rfl, nibble_some, Option.bind_some, I_shift _ 4 16 (by decide), xor_I, ofInt_I, ofInt_I,
        steps_low 4 _ 15#32 low15, ← steps_add, wrap_one i l.length hi hl]
    · rw [drop_cons l i hi, raw_cons]
      exact ih (i + 1) _ (by omega)
theorem more (l : List Int) (hl : l.length ≤ 9223372036854775807) (s : BitVec 32) : Ev (fun k => crc_More.f k (I s) l) (I (sum s l)) := by
  have h := more_from l hl l.length 0 (~~~s) (by omega)
  refine Ev.congr (fun k => ?_) h
  rw [crc_More.f, xor_I, ofInt_I]
  rw [ones_xor]
  rfl
theorem ref_step (s : BitVec 32) : plinthref02_step.f (I s) = some (I (step s)) := by
  have hr := I_range s
  have h2 : I s / (2 : Int) = I (s >>> 1) := I_shift s 1 2 (by decide)
  have h3 := I_range (s >>> 1)
  unfold plinthref02_step.f
  rw [Int.tmod_eq_emod_of_nonneg hr.1, Int.tdiv_eq_ediv_of_nonneg hr.1, h2, Int.emod_eq_of_lt h3.1 h3.2]
  have hb : (s.getLsbD 0 = true) ↔ I s % 2 = 1 := by
    unfold I
    rw [BitVec.getLsbD, Nat.testBit_zero]
    simp
    omega
  by_cases h : I s % 2 = 1
  · rw [if_pos h, xor_I, ofInt_I]
    unfold step
    rw [if_pos (hb.2 h)]
    rfl
  · rw [if_neg h]
    unfold step
    rw [if_neg (fun z => h (hb.1 z)), BitVec.xor_zero]
theorem ref_bits (l : List Int) (i : Int) (d : Nat) : ∀ (j : Nat) (s : BitVec 32) (r : Int), j + d = 8 → Ev (fun k => plinthref02_More.l0 k l (I (steps d s)) (wrap64 (i + 1))) r →
    Ev (fun k => plinthref02_More.l1 k l (I s) i (j : Int)) r := by
  induction d with
  | zero =>
    intro j s r h hr
    refine Ev.step (fun k => ?_) hr
    rw [plinthref02_More.l1, if_neg (by omega)]
    rfl
  | succ d ih =>
    intro j s r h hr
    refine Ev.step (f := fun k => plinthref02_More.l1 k l (I (step s)) i ((j + 1 : Nat) : Int)) (fun k => ?_) (ih (j + 1) (step s) r (by omega) hr)
    rw [plinthref02_More.l1, if_pos (by omega), ref_step, Option.bind_some, wrap_one j 8 (by omega) (by omega)]
theorem ref_from (l : List Int) (hl : l.length ≤ 9223372036854775807) (d : Nat) : ∀ (i : Nat) (s : BitVec 32), i + d = l.length →
    Ev (fun k => plinthref02_More.l0 k l (I s) (i : Int)) (I (~~~(raw s (l.drop i)))) := by
  induction d with
  | zero =>
    intro i s h
    refine Ev.step (f := fun _ => some (I (~~~(raw s (l.drop i))))) (fun k => ?_) (Ev.now _)
    rw [plinthref02_More.l0, if_neg (by omega), xor_I, ofInt_I, List.drop_of_length_le (by omega), raw_nil, ones_xor]
  | succ d ih =>
    intro i s h
    have hi : i < l.length := by omega
    refine Ev.step (f := fun k => plinthref02_More.l1 k l (I (s ^^^ BitVec.ofInt 32 (rd l (i : Int)))) (i : Int) ((0 : Nat) : Int)) (fun k => ?_) ?_
    · rw [plinthref02_More.l0, if_pos (by omega), if_pos (by omega), xor_I, ofInt_I, ofInt_mod]
      rfl
    · refine ref_bits l i 8 0 _ _ (by omega) ?_
      rw [wrap_one i l.length hi hl, drop_cons l i hi, raw_cons]
      exact ih (i + 1) _ (by omega)
theorem ref_more (l : List Int) (hl : l.length ≤ 9223372036854775807) (s : BitVec 32) : Ev (fun k => plinthref02_More.f k (I s) l) (I (sum s l)) := by
  have h := ref_from l hl l.length 0 (~~~s) (by omega)
  refine Ev.congr (fun k => ?_) h
  rw [plinthref02_More.f, xor_I, ofInt_I]
  rw [ones_xor]
  rfl
theorem rdL (l : List (List Int)) (i : Nat) (h : i < l.length) : l.drop i = l.getD i [] :: l.drop (i + 1) := by
  rw [List.drop_eq_getElem_cons h]
  simp [h]
theorem all_from (l : List (List Int)) (hl : l.length ≤ 9223372036854775807) (hb : ∀ b ∈ l, b.length ≤ 9223372036854775807) (d : Nat) : ∀ (i : Nat) (s : BitVec 32), i + d = l.length →
    Ev (fun k => crc_Sum.l0 k (I s) l (l.length : Int) (i : Int)) (I ((l.drop i).foldl sum s)) := by
  induction d with
  | zero =>
    intro i s h
    refine Ev.step (f := fun _ => some (I ((l.drop i).foldl sum s))) (fun k => ?_) (Ev.now _)
    rw [crc_Sum.l0, if_neg (by omega), List.drop_of_length_le (by omega)]
    rfl
  | succ d ih =>
    intro i s h
    have hi : i < l.length := by omega
    have hm := more (l.getD i []) (by
      apply hb
      simp [hi]) s
    refine Ev.step (f := fun k => (crc_More.f k (I s) (l.getD i [])).bind fun t => crc_Sum.l0 k t l (l.length : Int) ((i + 1 : Nat) : Int)) (fun k => ?_) ?_
    · rw [crc_Sum.l0, if_pos (by omega), if_pos (by omega), if_pos (by omega), wrap_one i l.length hi hl]
      rfl
    · refine Ev.bind hm ?_
      rw [rdL l i hi, List.foldl_cons]
      exact ih (i + 1) _ (by omega)
theorem all (l : List (List Int)) (hl : l.length ≤ 9223372036854775807) (hb : ∀ b ∈ l, b.length ≤ 9223372036854775807) : Ev (fun k => crc_Sum.f k l) (I (sumAll l)) := by
  have h := all_from l hl hb l.length 0 0#32 (by omega)
  refine Ev.congr (fun k => ?_) h
  rw [crc_Sum.f]
  rfl
end Go.Proofs.Ytbpffhdecbgmpaa.Crc
