import Derived.OpenShut
import Derived.Laws.BytesArg
import Derived.Test.YtbmmddngadnofaaFx3
import Derived.Test.YtbmmddngadnofaaFx13
import Derived.Test.YtbmmddngadnofaaFx2
import Derived.Laws.BitsAllLaws
import Derived.Laws.BitsLemmas
import Derived.Test.YtbmmddngadnofaaVoc0
import Derived.Test.YtbmmddngadnofaaFx4
import Derived.Test.YtbmmddngadnofaaFx5
import Derived.Test.YtbmmddngadnofaaFx28
import Derived.Test.YtbmmddngadnofaaFx26
import Derived.Test.YtbmmddngadnofaaFx27
import Derived.Test.YtbmmddngadnofaaFx6
import Derived.Test.YtbmmddngadnofaaFx14
import Derived.Test.YtbmmddngadnofaaFx7
import Derived.Test.YtbmmddngadnofaaFx8
import Derived.Test.YtbmmddngadnofaaFx16
import Derived.Test.YtbmmddngadnofaaFx15
import Derived.Test.YtbmmddngadnofaaFx11
import Derived.Test.YtbmmddngadnofaaFx10
import Derived.Test.YtbmmddngadnofaaFx18
import Derived.Test.YtbmmddngadnofaaFx17
import Derived.Test.YtbmmddngadnofaaFx9
import Derived.Test.YtbmmddngadnofaaFx19
import Derived.Test.YtbmmddngadnofaaFx12
import Derived.Test.YtbmmddngadnofaaFx20
import Derived.Test.YtbmmddngadnofaaFx22
import Derived.Test.YtbmmddngadnofaaFx23
import Derived.Test.YtbmmddngadnofaaFx21
import Derived.Test.YtbmmddngadnofaaFx24
import Derived.Test.YtbmmddngadnofaaFx1
import Derived.Test.YtbmmddngadnofaaFx30
/- Bytes as a text's bytes: two rows of bytes are alike just where their texts are. -/
namespace Go.Proofs.Ytbmmddngadnofaa.Bytes
open Go.RowKit

theorem loop_data (b : ByteArray) (d : Nat) : ∀ (i : Nat) (r : List UInt8), i + d = b.size → ByteArray.toList.loop b i r = r.reverse ++ b.data.toList.drop i := by
  induction d with
  | zero =>
    intro i r h
    rw [ByteArray.toList.loop, if_neg (by omega), List.drop_of_length_le (by simp; omega), List.append_nil]
  | succ d ih =>
    intro i r h
    have hi : i < b.data.toList.length := by simp; omega
    rw [ByteArray.toList.loop, if_pos (by omega), ih (i + 1) _ (by omega), List.drop_eq_getElem_cons hi]
    have hg : b.get! i = b.data.toList[i] := by
      have hs : i < b.data.size := by simpa using hi
      show b.data[i]! = b.data.toList[i]
      rw [getElem!_pos b.data i hs]
      rfl
    simp [hg]
theorem toList_data (b : ByteArray) : b.toList = b.data.toList := by
  unfold ByteArray.toList
  rw [loop_data b b.size 0 [] (by omega)]
  simp
def isByte (l : List Int) : Prop := ∀ x ∈ l, 0 ≤ x ∧ x ≤ 255
theorem isByte_of {l : List Int} (h : ∀ x ∈ l, (Lit.int .u8 x).wf = true) : isByte l := fun x hx => bounds_u8 (h x hx)
theorem text_iff {a b : List Int} (ha : isByte a) (hb : isByte b) : (strOfNums a).toList = (strOfNums b).toList ↔ a = b := by
  constructor
  · intro h
    rw [toList_data, toList_data] at h
    simp only [strOfNums] at h
    have inj : ∀ (a b : List Int), isByte a → isByte b → a.map (fun n => UInt8.ofNat n.toNat) = b.map (fun n => UInt8.ofNat n.toNat) → a = b := by
      intro a
      induction a with
      | nil => intro b _ _ h; cases b <;> simp_all
      | cons x a ih =>
        intro b ha hb h
        cases b with
        | nil => simp at h
        | cons y b =>
          simp only [List.map_cons, List.cons.injEq] at h
          have hx := ha x (by simp)
          have hy := hb y (by simp)
          have h1 := congrArg UInt8.toNat h.1
          rw [UInt8.toNat_ofNat', UInt8.toNat_ofNat'] at h1
          have : x = y := by omega
          rw [this, ih b (fun z hz => ha z (by simp [hz])) (fun z hz => hb z (by simp [hz])) h.2]
    exact inj a b ha hb h
  · intro h
    rw [h]
theorem isByte_append {a b : List Int} (ha : isByte a) (hb : isByte b) : isByte (a ++ b) := by
  intro x hx
  rcases List.mem_append.1 hx with h | h
  · exact ha x h
  · exact hb x h
theorem isByte_take {a : List Int} (n : Nat) (ha : isByte a) : isByte (a.take n) := fun x hx => ha x (List.mem_of_mem_take hx)
theorem isByte_drop {a : List Int} (n : Nat) (ha : isByte a) : isByte (a.drop n) := fun x hx => ha x (List.mem_of_mem_drop hx)
theorem isByte_nil : isByte [] := fun x hx => by cases hx
end Go.Proofs.Ytbmmddngadnofaa.Bytes

/- The sums (CRC-32C), as 32 bits: one bit, n bits, a byte, bytes; linear, and told again by the printed functions. -/
namespace Go.Proofs.Ytbmmddngadnofaa.Crc
open Go.RowKit Go.Proofs.Ytbmmddngadnofaa.F Go.Proofs.YtbmmddngadnofaaW.PrintWords Go.Proofs.YtbmmddngadnofaaW.PrintLast Go.Proofs.YtbmmddngadnofaaW.PrintMore

def poly : BitVec 32 := 2197175160#32
def step (s : BitVec 32) : BitVec 32 := (s >>> 1) ^^^ (if s.getLsbD 0 then poly else 0#32)
def steps : Nat → BitVec 32 → BitVec 32
  | 0, s => s
  | n + 1, s => steps n (step s)
theorem step_xor (a b : BitVec 32) : step (a ^^^ b) = step a ^^^ step b := by
  unfold step
  rw [BitVec.ushiftRight_xor_distrib, BitVec.getLsbD_xor]
  cases a.getLsbD 0 <;> cases b.getLsbD 0
  · simp
  · simp [BitVec.xor_assoc]
  · simp only [Bool.xor_false, if_true, Bool.false_eq_true, if_false, BitVec.xor_zero]
    rw [BitVec.xor_assoc, BitVec.xor_assoc, BitVec.xor_comm poly]
  · simp only [Bool.xor_self, if_true, Bool.false_eq_true, if_false, BitVec.xor_zero]
    rw [BitVec.xor_assoc, ← BitVec.xor_assoc poly, BitVec.xor_comm poly, BitVec.xor_assoc, BitVec.xor_self, BitVec.xor_zero]
theorem steps_xor (n : Nat) : ∀ a b : BitVec 32, steps n (a ^^^ b) = steps n a ^^^ steps n b := by
  induction n with
  | zero => intro a b; rfl
  | succ n ih => intro a b; rw [steps, steps, steps, step_xor, ih]
theorem steps_add (m n : Nat) : ∀ s, steps (m + n) s = steps n (steps m s) := by
  induction m with
  | zero => intro s; rw [Nat.zero_add]; rfl
  | succ m ih => intro s; rw [Nat.succ_add, steps, ih, steps]
theorem step_even {s : BitVec 32} (h : s.getLsbD 0 = false) : step s = s >>> 1 := by
  unfold step
  rw [h]
  simp
theorem steps_shift (n : Nat) : ∀ s : BitVec 32, (∀ i, i < n → s.getLsbD i = false) → steps n s = s >>> n := by
  induction n with
  | zero => intro s _; simp [steps]
  | succ n ih =>
    intro s h
    rw [steps, step_even (h 0 (by omega)), ih]
    · rw [← BitVec.shiftRight_add, Nat.add_comm]
    · intro i hi
      rw [BitVec.getLsbD_ushiftRight]
      exact h _ (by omega)
/-- A sum's low bits, and the others. -/
theorem steps_low (n : Nat) (s m : BitVec 32) (hm : ∀ i, i < 32 → m.getLsbD i = decide (i < n)) : (s >>> n) ^^^ steps n (s &&& m) = steps n s := by
  have h1 : s = (s &&& ~~~m) ^^^ (s &&& m) := by
    ext i hi
    have := hm i hi
    simp only [BitVec.getElem_xor, BitVec.getElem_and, BitVec.getElem_not]
    cases s[i] <;> cases m[i] <;> rfl
  have h2 : steps n (s &&& ~~~m) = s >>> n := by
    rw [steps_shift n (s &&& ~~~m)]
    · ext i hi
      simp only [BitVec.getElem_ushiftRight, BitVec.getLsbD_and, BitVec.getLsbD_not]
      by_cases h : n + i < 32
      · rw [hm _ h]
        simp [h]
      · rw [BitVec.getLsbD_of_ge s _ (by omega)]
        simp
    · intro i hi
      rw [BitVec.getLsbD_and, BitVec.getLsbD_not]
      by_cases h : i < 32
      · rw [hm _ h]
        simp [hi]
      · simp [h]
  have h3 := steps_xor n (s &&& ~~~m) (s &&& m)
  rw [← h1, h2] at h3
  exact h3.symm

/-! ### numbers -/
def I (s : BitVec 32) : Int := (s.toNat : Int)
theorem I_range (s : BitVec 32) : 0 ≤ I s ∧ I s < 4294967296 := by
  unfold I
  have := s.isLt
  omega
theorem I_inj {a b : BitVec 32} (h : I a = I b) : a = b := BitVec.eq_of_toNat_eq (by unfold I at h; omega)
theorem ofInt_I (s : BitVec 32) : BitVec.ofInt 32 (I s) = s := by unfold I; simp
theorem I_ofInt (n : Int) : I (BitVec.ofInt 32 n) = n % 4294967296 := by
  unfold I
  rw [BitVec.toNat_ofInt]
  omega
theorem back (s : BitVec 32) : IntKind.u32.wrap (s.toNat : Int) = I s := by
  have := s.isLt
  unfold I
  rw [IntKind.wrap_u32]
  omega
theorem xor_I (x y : Int) : Go.bits .xor .u32 x y = I (BitVec.ofInt 32 x ^^^ BitVec.ofInt 32 y) := back _
theorem and_I (x y : Int) : Go.bits .and .u32 x y = I (BitVec.ofInt 32 x &&& BitVec.ofInt 32 y) := back _
theorem I_shift (s : BitVec 32) (n : Nat) (m : Int) (h : ((2 ^ n : Nat) : Int) = m) : I s / m = I (s >>> n) := by
  unfold I
  rw [BitVec.toNat_ushiftRight, Nat.shiftRight_eq_div_pow, ← h]
  rfl
theorem ofInt_mod (c : Int) : BitVec.ofInt 32 (c % 4294967296) = BitVec.ofInt 32 c := by
  rw [← I_ofInt, ofInt_I]

theorem ones_xor (s : BitVec 32) : BitVec.ofInt 32 4294967295 ^^^ s = ~~~s := by
  have h : BitVec.ofInt 32 4294967295 = BitVec.allOnes 32 := by decide
  rw [h, BitVec.allOnes_xor]

/-! ### bytes -/
def raw (s : BitVec 32) (l : List Int) : BitVec 32 := l.foldl (fun s c => steps 8 (s ^^^ BitVec.ofInt 32 c)) s
theorem raw_nil (s : BitVec 32) : raw s [] = s := rfl
theorem raw_cons (s : BitVec 32) (c : Int) (l : List Int) : raw s (c :: l) = raw (steps 8 (s ^^^ BitVec.ofInt 32 c)) l := rfl
theorem raw_append (s : BitVec 32) (l m : List Int) : raw s (l ++ m) = raw (raw s l) m := List.foldl_append
def sum (s : BitVec 32) (l : List Int) : BitVec 32 := ~~~(raw (~~~s) l)
theorem sum_append (s : BitVec 32) (l m : List Int) : sum s (l ++ m) = sum (sum s l) m := by
  unfold sum
  rw [raw_append, BitVec.not_not]
theorem sum_nil (s : BitVec 32) : sum s [] = s := by
  unfold sum
  rw [raw_nil, BitVec.not_not]
def sumAll (l : List (List Int)) : BitVec 32 := l.foldl sum 0#32
theorem sumAll_flat (l : List (List Int)) : ∀ s, l.foldl sum s = sum s l.flatten := by
  induction l with
  | nil => intro s; simp [sum_nil]
  | cons b l ih => intro s; rw [List.foldl_cons, ih, List.flatten_cons, sum_append]

/-! ### the functions -/
theorem nibble_low (i : Fin 16) : crc_nibble.f (I (BitVec.ofNat 32 i.val)) = some (I (steps 4 (BitVec.ofNat 32 i.val))) := by
  revert i
  decide +kernel
theorem nibble_some (e : BitVec 32) : crc_nibble.f (I (e &&& 15#32)) = some (I (steps 4 (e &&& 15#32))) := by
  have h : (e &&& 15#32).toNat < 16 := by
    rw [BitVec.toNat_and]
    exact Nat.lt_of_le_of_lt Nat.and_le_right (by decide)
  have := nibble_low ⟨_, h⟩
  simpa using this
theorem low15 : ∀ i, i < 32 → (15#32).getLsbD i = decide (i < 4) := by decide
theorem getD_rd (l : List Int) (i : Nat) : rd l (i : Int) = l.getD i 0 := by simp [rd]
theorem drop_cons (l : List Int) (i : Nat) (h : i < l.length) : l.drop i = rd l (i : Int) :: l.drop (i + 1) := by
  rw [getD_rd, List.drop_eq_getElem_cons h]
  simp [h]
theorem wrap_one (i n : Nat) (h : i < n) (hn : n ≤ 9223372036854775807) : wrap64 ((i : Int) + 1) = ((i + 1 : Nat) : Int) := by
  unfold wrap64
  omega
theorem more_from (l : List Int) (hl : l.length ≤ 9223372036854775807) (d : Nat) : ∀ (i : Nat) (s : BitVec 32), i + d = l.length →
    Ev (fun k => crc_More.l0 k (I s) l (l.length : Int) (i : Int)) (I (~~~(raw s (l.drop i)))) := by
  induction d with
  | zero =>
    intro i s h
    refine Ev.step (f := fun _ => some (I (~~~(raw s (l.drop i))))) (fun k => ?_) (Ev.now _)
    rw [crc_More.l0, if_neg (by omega), xor_I, ofInt_I, List.drop_of_length_le (by omega), raw_nil, ones_xor]
  | succ d ih =>
    intro i s h
    have hi : i < l.length := by omega
    refine Ev.step (f := fun k => crc_More.l0 k (I (steps 8 (s ^^^ BitVec.ofInt 32 (rd l (i : Int))))) l (l.length : Int) ((i + 1 : Nat) : Int)) (fun k => ?_) ?_
    · rw [crc_More.l0, if_pos (by omega), if_pos (by omega), if_pos (by omega), xor_I, ofInt_I, ofInt_mod]
      generalize s ^^^ BitVec.ofInt 32 (rd l (i : Int)) = e
      rw [and_I, ofInt_I, show BitVec.ofInt 32 15 = 15#32 from rfl, nibble_some, Option.bind_some, I_shift e 4 16 (by decide), xor_I, ofInt_I, ofInt_I,
        steps_low 4 e 15#32 low15, and_I, ofInt_I, show BitVec.ofInt 32 15 = 15#32 from rfl, nibble_some, Option.bind_some, I_shift _ 4 16 (by decide), xor_I, ofInt_I, ofInt_I,
        steps_low 4 _ 15#32 low15, ← steps_add, wrap_one i l.length hi hl]
    · rw [drop_cons l i hi, raw_cons]
      exact ih (i + 1) _ (by omega)
theorem more (l : List Int) (hl : l.length ≤ 9223372036854775807) (s : BitVec 32) : Ev (fun k => crc_More.f k (I s) l) (I (sum s l)) := by
  have h := more_from l hl l.length 0 (~~~s) (by omega)
  refine Ev.congr (fun k => ?_) h
  rw [crc_More.f, xor_I, ofInt_I]
  rw [ones_xor]
  rfl
theorem ref_step (s : BitVec 32) : plinthref02_step.f (I s) = some (I (step s)) := by
  have hr := I_range s
  have h2 : I s / (2 : Int) = I (s >>> 1) := I_shift s 1 2 (by decide)
  have h3 := I_range (s >>> 1)
  unfold plinthref02_step.f
  rw [Int.tmod_eq_emod_of_nonneg hr.1, Int.tdiv_eq_ediv_of_nonneg hr.1, h2, Int.emod_eq_of_lt h3.1 h3.2]
  have hb : (s.getLsbD 0 = true) ↔ I s % 2 = 1 := by
    unfold I
    rw [BitVec.getLsbD, Nat.testBit_zero]
    simp
    omega
  by_cases h : I s % 2 = 1
  · rw [if_pos h, xor_I, ofInt_I]
    unfold step
    rw [if_pos (hb.2 h)]
    rfl
  · rw [if_neg h]
    unfold step
    rw [if_neg (fun z => h (hb.1 z)), BitVec.xor_zero]
theorem ref_bits (l : List Int) (i : Int) (d : Nat) : ∀ (j : Nat) (s : BitVec 32) (r : Int), j + d = 8 → Ev (fun k => plinthref02_More.l0 k l (I (steps d s)) (wrap64 (i + 1))) r →
    Ev (fun k => plinthref02_More.l1 k l (I s) i (j : Int)) r := by
  induction d with
  | zero =>
    intro j s r h hr
    refine Ev.step (fun k => ?_) hr
    rw [plinthref02_More.l1, if_neg (by omega)]
    rfl
  | succ d ih =>
    intro j s r h hr
    refine Ev.step (f := fun k => plinthref02_More.l1 k l (I (step s)) i ((j + 1 : Nat) : Int)) (fun k => ?_) (ih (j + 1) (step s) r (by omega) hr)
    rw [plinthref02_More.l1, if_pos (by omega), ref_step, Option.bind_some, wrap_one j 8 (by omega) (by omega)]
theorem ref_from (l : List Int) (hl : l.length ≤ 9223372036854775807) (d : Nat) : ∀ (i : Nat) (s : BitVec 32), i + d = l.length →
    Ev (fun k => plinthref02_More.l0 k l (I s) (i : Int)) (I (~~~(raw s (l.drop i)))) := by
  induction d with
  | zero =>
    intro i s h
    refine Ev.step (f := fun _ => some (I (~~~(raw s (l.drop i))))) (fun k => ?_) (Ev.now _)
    rw [plinthref02_More.l0, if_neg (by omega), xor_I, ofInt_I, List.drop_of_length_le (by omega), raw_nil, ones_xor]
  | succ d ih =>
    intro i s h
    have hi : i < l.length := by omega
    refine Ev.step (f := fun k => plinthref02_More.l1 k l (I (s ^^^ BitVec.ofInt 32 (rd l (i : Int)))) (i : Int) ((0 : Nat) : Int)) (fun k => ?_) ?_
    · rw [plinthref02_More.l0, if_pos (by omega), if_pos (by omega), xor_I, ofInt_I, ofInt_mod]
      rfl
    · refine ref_bits l i 8 0 _ _ (by omega) ?_
      rw [wrap_one i l.length hi hl, drop_cons l i hi, raw_cons]
      exact ih (i + 1) _ (by omega)
theorem ref_more (l : List Int) (hl : l.length ≤ 9223372036854775807) (s : BitVec 32) : Ev (fun k => plinthref02_More.f k (I s) l) (I (sum s l)) := by
  have h := ref_from l hl l.length 0 (~~~s) (by omega)
  refine Ev.congr (fun k => ?_) h
  rw [plinthref02_More.f, xor_I, ofInt_I]
  rw [ones_xor]
  rfl
theorem rdL (l : List (List Int)) (i : Nat) (h : i < l.length) : l.drop i = l.getD i [] :: l.drop (i + 1) := by
  rw [List.drop_eq_getElem_cons h]
  simp [h]
theorem all_from (l : List (List Int)) (hl : l.length ≤ 9223372036854775807) (hb : ∀ b ∈ l, b.length ≤ 9223372036854775807) (d : Nat) : ∀ (i : Nat) (s : BitVec 32), i + d = l.length →
    Ev (fun k => crc_Sum.l0 k (I s) l (l.length : Int) (i : Int)) (I ((l.drop i).foldl sum s)) := by
  induction d with
  | zero =>
    intro i s h
    refine Ev.step (f := fun _ => some (I ((l.drop i).foldl sum s))) (fun k => ?_) (Ev.now _)
    rw [crc_Sum.l0, if_neg (by omega), List.drop_of_length_le (by omega)]
    rfl
  | succ d ih =>
    intro i s h
    have hi : i < l.length := by omega
    have hm := more (l.getD i []) (by
      apply hb
      simp [hi]) s
    refine Ev.step (f := fun k => (crc_More.f k (I s) (l.getD i [])).bind fun t => crc_Sum.l0 k t l (l.length : Int) ((i + 1 : Nat) : Int)) (fun k => ?_) ?_
    · rw [crc_Sum.l0, if_pos (by omega), if_pos (by omega), if_pos (by omega), wrap_one i l.length hi hl]
      rfl
    · refine Ev.bind hm ?_
      rw [rdL l i hi, List.foldl_cons]
      exact ih (i + 1) _ (by omega)
theorem all (l : List (List Int)) (hl : l.length ≤ 9223372036854775807) (hb : ∀ b ∈ l, b.length ≤ 9223372036854775807) : Ev (fun k => crc_Sum.f k l) (I (sumAll l)) := by
  have h := all_from l hl hb l.length 0 0#32 (by omega)
  refine Ev.congr (fun k => ?_) h
  rw [crc_Sum.f]
  rfl
end Go.Proofs.Ytbmmddngadnofaa.Crc

/- Numbers and texts as bytes, in plain words: the bytes of a number, the number of bytes, what is put and what is got. -/
namespace Go.Proofs.Ytbmmddngadnofaa.Octets
open Go.RowKit Go.Proofs.Ytbmmddngadnofaa.Bytes Go.Proofs.YtbmmddngadnofaaW.PrintWords Go.Proofs.YtbmmddngadnofaaW.PrintLast Go.Proofs.YtbmmddngadnofaaW.PrintMore

/-! ### lists and numbers -/
theorem rd_nat (l : List Int) (i : Nat) (h : i < l.length) : rd l (i : Int) = l[i] := by
  simp [rd, h]
theorem drop_rd (l : List Int) (i : Nat) (h : i < l.length) : l.drop i = rd l (i : Int) :: l.drop (i + 1) := by
  rw [rd_nat l i h, List.drop_eq_getElem_cons h]
theorem take_rd (l : List Int) (i : Nat) (h : i < l.length) : l.take (i + 1) = l.take i ++ [rd l (i : Int)] := by
  rw [rd_nat l i h, List.take_succ_eq_append_getElem h]
theorem rd_byte {l : List Int} (hb : isByte l) (i : Nat) (h : i < l.length) : 0 ≤ rd l (i : Int) ∧ rd l (i : Int) ≤ 255 := by
  rw [rd_nat l i h]
  exact hb _ (List.getElem_mem h)
theorem wrap_next (i n : Nat) (h : i < n) (hn : n ≤ 9223372036854775807) : wrap64 ((i : Int) + 1) = ((i + 1 : Nat) : Int) := by
  unfold wrap64
  omega
theorem wrap_in (x : Int) (h0 : -9223372036854775808 ≤ x) (h1 : x ≤ 9223372036854775807) : wrap64 x = x := by
  unfold wrap64
  omega
theorem u64_in (x : Int) (h0 : 0 ≤ x) (h1 : x ≤ 18446744073709551615) : IntKind.u64.wrap x = x := by
  rw [IntKind.wrap_u64]
  omega
theorem eight (i : Nat) (h : i ≤ 8) : IntKind.u64.wrap (wrap64 (8 * (i : Int))) = ((8 * i : Nat) : Int) := by
  rw [wrap_in _ (by omega) (by omega), u64_in _ (by omega) (by omega)]
  omega
theorem pow256 (i : Nat) : (2 : Int) ^ (8 * i) = 256 ^ i := by
  rw [Int.pow_mul]
  rfl
theorem pow_pos (i : Nat) : (0 : Int) < 256 ^ i := Int.pow_pos (by decide)
theorem shr_eight (v : Int) (i : Nat) (h : i ≤ 8) : shr .u64 v ((8 * i : Nat) : Int) = v / 256 ^ i := by
  unfold shr
  rw [Int.toNat_natCast, Nat.min_eq_left (by simp [IntKind.bits]; omega), pow256]

/-! ### the number's bytes -/
def le (v : Int) (n : Nat) : List Int := (List.range n).map fun i => v / 256 ^ i % 256
theorem le_zero (v : Int) : le v 0 = [] := rfl
theorem le_succ (v : Int) (n : Nat) : le v (n + 1) = le v n ++ [v / 256 ^ n % 256] := by simp [le, List.range_succ]
theorem le_length (v : Int) (n : Nat) : (le v n).length = n := by simp [le]
theorem le_byte (v : Int) (n : Nat) : isByte (le v n) := by
  intro x hx
  simp only [le, List.mem_map, List.mem_range] at hx
  obtain ⟨i, _, rfl⟩ := hx
  omega
def val : List Int → Int
  | [] => 0
  | c :: l => c + 256 * val l
theorem val_append (l m : List Int) : val (l ++ m) = val l + 256 ^ l.length * val m := by
  induction l with
  | nil => simp [val]
  | cons c l ih =>
    rw [List.cons_append, val, val, ih, List.length_cons, Int.pow_succ, Int.mul_add, Int.mul_comm (256 ^ l.length) 256, Int.mul_assoc]
    omega
theorem val_range {l : List Int} (h : isByte l) : 0 ≤ val l ∧ val l < 256 ^ l.length := by
  induction l with
  | nil => simp [val]
  | cons c l ih =>
    have hc := h c (by simp)
    have hl := ih (fun x hx => h x (by simp [hx]))
    rw [val, List.length_cons, Int.pow_succ]
    omega
theorem val_le (v : Int) (n : Nat) : val (le v n) = v % 256 ^ n := by
  induction n with
  | zero => rw [le_zero, val, Int.pow_zero]; omega
  | succ n ih =>
    rw [le_succ, val_append, ih, le_length, val, val, Int.pow_succ]
    have h1 := Int.emod_add_mul_ediv v (256 ^ n)
    have h2 := Int.emod_add_mul_ediv v (256 ^ n * 256)
    have h3 : v / 256 ^ n / 256 = v / (256 ^ n * 256) := Int.ediv_ediv_of_nonneg (Int.le_of_lt (pow_pos n))
    have h4 := Int.emod_add_mul_ediv (v / 256 ^ n) 256
    rw [h3] at h4
    generalize v / (256 ^ n * 256) = q at *
    generalize (256 : Int) ^ n = p at *
    have h5 : p * (v / p) = p * (v / p % 256) + p * (256 * q) := by rw [← Int.mul_add, h4]
    rw [Int.mul_assoc] at h2
    simp only [Int.mul_zero, Int.add_zero]
    omega
theorem or_comm (k : IntKind) (x y : Int) : Go.bits .or k x y = Go.bits .or k y x := by
  unfold Go.bits
  simp only [BitVec.or_comm]
theorem wraps_u64 (n : Int) (h0 : 0 ≤ n) (h1 : n < 2 ^ 64) : IntKind.u64.wrap n = n := by
  rw [IntKind.wrap_u64]
  omega
theorem or_add (a c : Int) (i : Nat) (hi : i < 8) (ha0 : 0 ≤ a) (ha : a < 256 ^ i) (hc : 0 ≤ c ∧ c ≤ 255) : Go.bits .or .u64 a (c * 256 ^ i) = a + 256 ^ i * c := by
  rw [or_comm]
  have h : i = 0 ∨ i = 1 ∨ i = 2 ∨ i = 3 ∨ i = 4 ∨ i = 5 ∨ i = 6 ∨ i = 7 := by omega
  rcases h with rfl | rfl | rfl | rfl | rfl | rfl | rfl | rfl
  · rw [bits_join .u64 64 (by decide) wraps_u64 0 _ _ (by omega) (by omega) (by omega) ha0 (by omega) (by omega)]; omega
  · rw [bits_join .u64 64 (by decide) wraps_u64 8 _ _ (by omega) (by omega) (by omega) ha0 (by omega) (by omega)]; omega
  · rw [bits_join .u64 64 (by decide) wraps_u64 16 _ _ (by omega) (by omega) (by omega) ha0 (by omega) (by omega)]; omega
  · rw [bits_join .u64 64 (by decide) wraps_u64 24 _ _ (by omega) (by omega) (by omega) ha0 (by omega) (by omega)]; omega
  · rw [bits_join .u64 64 (by decide) wraps_u64 32 _ _ (by omega) (by omega) (by omega) ha0 (by omega) (by omega)]; omega
  · rw [bits_join .u64 64 (by decide) wraps_u64 40 _ _ (by omega) (by omega) (by omega) ha0 (by omega) (by omega)]; omega
  · rw [bits_join .u64 64 (by decide) wraps_u64 48 _ _ (by omega) (by omega) (by omega) ha0 (by omega) (by omega)]; omega
  · rw [bits_join .u64 64 (by decide) wraps_u64 56 _ _ (by omega) (by omega) (by omega) ha0 (by omega) (by omega)]; omega
theorem pow_mono {i j : Nat} (h : i ≤ j) : (256 : Int) ^ i ≤ 256 ^ j := by
  obtain ⟨d, rfl⟩ := Nat.exists_eq_add_of_le h
  rw [Int.pow_add]
  have h1 := pow_pos i
  have h2 := pow_pos d
  have := Int.mul_le_mul_of_nonneg_left (show (1 : Int) ≤ 256 ^ d by omega) (Int.le_of_lt h1)
  omega
theorem shl_eight (c : Int) (i : Nat) (hi : i < 8) (hc : 0 ≤ c ∧ c ≤ 255) : shl .u64 (IntKind.u64.wrap c) ((8 * i : Nat) : Int) = c * 256 ^ i := by
  unfold shl
  rw [Int.toNat_natCast, Nat.min_eq_left (by simp [IntKind.bits]; omega), pow256, u64_in c (by omega) (by omega)]
  have h1 := pow_pos i
  have h2 := pow_mono (show i ≤ 7 by omega)
  have h3 : c * 256 ^ i ≤ 255 * 256 ^ 7 := Int.mul_le_mul hc.2 h2 (Int.le_of_lt h1) (by decide)
  have h4 : 0 ≤ c * 256 ^ i := Int.mul_nonneg hc.1 (Int.le_of_lt h1)
  exact u64_in _ h4 (by omega)

/-! ### what is put, what is got -/
def putAllOf (b : List Int) (n : Nat) : List Int → List Int × Int
  | [] => (b, 0)
  | v :: l => if v < 256 ^ n then putAllOf (b ++ le v n) n l else ([], 5)
def putOf (b : List Int) (v n : Int) : List Int × Int := if n < 1 ∨ 8 < n then ([], 1) else if v < 256 ^ n.toNat then (b ++ le v n.toNat, 0) else ([], 5)
def getOf (b : List Int) (a n : Int) : Int × Int × Int :=
  if n < 1 ∨ 8 < n then (0, 0, 1) else if a < 0 ∨ (b.length : Int) < a then (0, 0, 5) else if (b.length : Int) - a < n then (0, 0, 10) else (val ((b.drop a.toNat).take n.toNat), a + n, 0)
def putTextOf (b s : List Int) : List Int × Int := if 16777216 < s.length then ([], 2) else (b ++ le (s.length : Int) 4 ++ s, 0)
def getTextOf (b : List Int) (a : Int) : List Int × Int × Int :=
  let g := getOf b a 4
  if g.2.2 ≠ 0 then ([], 0, g.2.2) else if 16777216 < g.1 then ([], 0, 2) else if (b.length : Int) - g.2.1 < g.1 then ([], 0, 10) else ((b.drop g.2.1.toNat).take g.1.toNat, g.2.1 + g.1, 0)
theorem isByte_putOf {b : List Int} (h : isByte b) (v n : Int) : isByte (putOf b v n).1 := by
  unfold putOf
  split
  · exact isByte_nil
  · split
    · exact isByte_append h (le_byte _ _)
    · exact isByte_nil
theorem isByte_putTextOf {b s : List Int} (h : isByte b) (hs : isByte s) : isByte (putTextOf b s).1 := by
  unfold putTextOf
  split
  · exact isByte_nil
  · exact isByte_append (isByte_append h (le_byte _ _)) hs
theorem isByte_getTextOf {b : List Int} (h : isByte b) (a : Int) : isByte (getTextOf b a).1 := by
  unfold getTextOf
  dsimp only
  split
  · exact isByte_nil
  · split
    · exact isByte_nil
    · split
      · exact isByte_nil
      · exact isByte_take _ (isByte_drop _ h)
end Go.Proofs.Ytbmmddngadnofaa.Octets

/- The program's put, PutAll, Put, PutText: what they answer. -/
namespace Go.Proofs.Ytbmmddngadnofaa.Octets
open Go.RowKit Go.Proofs.Ytbmmddngadnofaa.F Go.Proofs.Ytbmmddngadnofaa.Bytes Go.Proofs.YtbmmddngadnofaaW.PrintWords Go.Proofs.YtbmmddngadnofaaW.PrintLast Go.Proofs.YtbmmddngadnofaaW.PrintMore

theorem clone_ (l : List Int) (h : l.length < 140737488355328) : slices_Clone_byte_byte.f l = some l := by
  unfold slices_Clone_byte_byte.f
  simp only [Option.bind_some, List.nil_append, List.length_nil]
  rw [if_pos (by omega)]
theorem sized_ (n : Int) : octets_sized.f n = some (decide (1 ≤ n ∧ n ≤ 8)) := by
  unfold octets_sized.f
  by_cases h : n ≥ 1
  · rw [if_pos h]
    simp [h]
  · rw [if_neg h]
    simp [h]
theorem fits_ (v : Int) (n : Nat) (hv : 0 ≤ v ∧ v ≤ 18446744073709551615) (hn : n ≤ 8) : octets_fits.f v (n : Int) = some (decide (v < 256 ^ n)) := by
  unfold octets_fits.f
  by_cases h : (n : Int) = 8
  · rw [if_pos h]
    obtain rfl : n = 8 := by omega
    have : v < 256 ^ 8 := by omega
    simp only [this, decide_true]
  · rw [if_neg h, eight n hn, if_pos (by omega), shr_eight v n hn]
    have hp := pow_pos n
    have hq : v / 256 ^ n = 0 ↔ v < 256 ^ n := by
      constructor
      · intro h0
        have h1 := Int.emod_add_mul_ediv v (256 ^ n)
        have h2 := Int.emod_lt_of_pos v hp
        rw [h0, Int.mul_zero] at h1
        omega
      · intro h0
        exact Int.ediv_eq_zero_of_lt hv.1 h0
    simp only [Option.some.injEq]
    by_cases h0 : v < 256 ^ n
    · rw [hq.2 h0]
      simp [h0]
    · have : ¬ v / 256 ^ n = 0 := fun z => h0 (hq.1 z)
      simp [this, h0]
theorem put_from (v : Int) (n : Nat) (hn : n ≤ 8) (d : Nat) : ∀ (i : Nat) (b : List Int), i + d = n → (b ++ le v i).length + d < 140737488355328 →
    Ev (fun k => octets_put.l0 k (b ++ le v i) v (n : Int) (i : Int)) (b ++ le v n) := by
  induction d with
  | zero =>
    intro i b h hb
    obtain rfl : i = n := by omega
    refine Ev.step (f := fun _ => some (b ++ le v i)) (fun k => ?_) (Ev.now _)
    rw [octets_put.l0, if_neg (by omega)]
  | succ d ih =>
    intro i b h hb
    refine Ev.step (f := fun k => octets_put.l0 k (b ++ le v (i + 1)) v (n : Int) ((i + 1 : Nat) : Int)) (fun k => ?_) (ih (i + 1) b (by omega) ?_)
    · rw [octets_put.l0, if_pos (by omega), eight i (by omega), if_pos (by omega), if_pos (by omega), shr_eight v i (by omega), wrap_next i n (by omega) (by omega), le_succ, List.append_assoc]
    · rw [List.length_append, le_length] at hb ⊢
      omega
theorem put_ (b : List Int) (v : Int) (n : Nat) (hn : n ≤ 8) (hb : b.length + n < 140737488355328) : Ev (fun k => octets_put.f k b v (n : Int)) (b ++ le v n) := by
  have h := put_from v n hn n 0 b (by omega) (by rw [le_zero, List.append_nil]; omega)
  refine Ev.congr (fun k => ?_) h
  rw [octets_put.f, le_zero, List.append_nil]
  rfl
theorem all_from (n : Nat) (hn : n ≤ 8) (l : List Int) (hl : ∀ v ∈ l, 0 ≤ v ∧ v ≤ 18446744073709551615) (hm : l.length ≤ 9223372036854775807) (d : Nat) : ∀ (i : Nat) (b : List Int), i + d = l.length → b.length + n * d < 140737488355328 →
    Ev (fun k => octets_PutAll.l0 k (n : Int) b l (l.length : Int) (i : Int)) (putAllOf b n (l.drop i)) := by
  induction d with
  | zero =>
    intro i b h hb
    refine Ev.step (f := fun _ => some (b, 0)) (fun k => ?_) ?_
    · rw [octets_PutAll.l0, if_neg (by omega)]
    · rw [List.drop_of_length_le (by omega)]
      exact Ev.now _
  | succ d ih =>
    intro i b h hb
    have hi : i < l.length := by omega
    have hv := hl (rd l (i : Int)) (by rw [rd_nat l i hi]; exact List.getElem_mem hi)
    rw [Nat.mul_succ] at hb
    rw [drop_rd l i hi, putAllOf]
    by_cases hf : rd l (i : Int) < 256 ^ n
    · rw [if_pos hf]
      refine Ev.step (f := fun k => (octets_put.f k b (rd l (i : Int)) (n : Int)).bind fun t => octets_PutAll.l0 k (n : Int) t l (l.length : Int) ((i + 1 : Nat) : Int)) (fun k => ?_) ?_
      · rw [octets_PutAll.l0, if_pos (by omega), if_pos (by omega), if_pos (by omega), fits_ _ n hv hn, Option.bind_some, decide_eq_true hf, if_pos rfl, wrap_next i l.length hi hm]
      · refine Ev.bind (put_ b _ n hn (by omega)) (ih (i + 1) _ (by omega) ?_)
        rw [List.length_append, le_length]
        omega
    · rw [if_neg hf]
      refine Ev.step (f := fun _ => some ([], 5)) (fun k => ?_) (Ev.now _)
      rw [octets_PutAll.l0, if_pos (by omega), if_pos (by omega), if_pos (by omega), fits_ _ n hv hn, Option.bind_some, decide_eq_false hf, if_neg (by decide)]
theorem putAll_ (b : List Int) (n : Nat) (l : List Int) (hn : 1 ≤ n ∧ n ≤ 8) (hl : ∀ v ∈ l, 0 ≤ v ∧ v ≤ 18446744073709551615) (hm : l.length ≤ 9223372036854775807) (hb : b.length + n * l.length < 140737488355328) :
    Ev (fun k => octets_PutAll.f k b (n : Int) l) (putAllOf b n l) := by
  have h := all_from n hn.2 l hl hm l.length 0 b (by omega) hb
  refine Ev.congr (fun k => ?_) h
  rw [octets_PutAll.f, sized_, Option.bind_some, decide_eq_true (by omega), if_pos rfl, clone_ b (by omega)]
  rfl
end Go.Proofs.Ytbmmddngadnofaa.Octets

/- The reference's sum of rows; the reference's Of. -/
namespace Go.Proofs.Ytbmmddngadnofaa.Crc
open Go.RowKit Go.Proofs.Ytbmmddngadnofaa.F Go.Proofs.YtbmmddngadnofaaW.PrintWords Go.Proofs.YtbmmddngadnofaaW.PrintLast Go.Proofs.YtbmmddngadnofaaW.PrintMore

theorem refAll_from (l : List (List Int)) (hl : l.length ≤ 9223372036854775807) (hb : ∀ b ∈ l, b.length ≤ 9223372036854775807) (d : Nat) : ∀ (i : Nat) (s : BitVec 32), i + d = l.length →
    Ev (fun k => plinthref02_Sum.l0 k l (I s) (i : Int)) (I ((l.drop i).foldl sum s)) := by
  induction d with
  | zero =>
    intro i s h
    refine Ev.step (f := fun _ => some (I ((l.drop i).foldl sum s))) (fun k => ?_) (Ev.now _)
    rw [plinthref02_Sum.l0, if_neg (by omega), List.drop_of_length_le (by omega)]
    rfl
  | succ d ih =>
    intro i s h
    have hi : i < l.length := by omega
    have hm := ref_more (l.getD i []) (by
      apply hb
      simp [hi]) s
    refine Ev.step (f := fun k => (plinthref02_More.f k (I s) (l.getD i [])).bind fun t => plinthref02_Sum.l0 k l t ((i + 1 : Nat) : Int)) (fun k => ?_) ?_
    · rw [plinthref02_Sum.l0, if_pos (by omega), if_pos (by omega), wrap_one i l.length hi hl]
      rfl
    · refine Ev.bind hm ?_
      rw [rdL l i hi, List.foldl_cons]
      exact ih (i + 1) _ (by omega)
theorem refAll (l : List (List Int)) (hl : l.length ≤ 9223372036854775807) (hb : ∀ b ∈ l, b.length ≤ 9223372036854775807) : Ev (fun k => plinthref02_Sum.f k l) (I (sumAll l)) := by
  have h := refAll_from l hl hb l.length 0 0#32 (by omega)
  refine Ev.congr (fun k => ?_) h
  rw [plinthref02_Sum.f]
  rfl
theorem ref_of (l : List Int) (hl : l.length ≤ 9223372036854775807) : Ev (fun k => plinthref02_Of.f k l) (I (sum 0#32 l)) := by
  unfold plinthref02_Of.f
  exact Ev.bind (ref_more l hl 0#32) (Ev.now _)
end Go.Proofs.Ytbmmddngadnofaa.Crc

/- One number put; the reference's PutAll. -/
namespace Go.Proofs.Ytbmmddngadnofaa.Octets
open Go.RowKit Go.Proofs.Ytbmmddngadnofaa.F Go.Proofs.Ytbmmddngadnofaa.Bytes Go.Proofs.YtbmmddngadnofaaW.PrintWords Go.Proofs.YtbmmddngadnofaaW.PrintLast Go.Proofs.YtbmmddngadnofaaW.PrintMore

theorem Put_ (b : List Int) (v n : Int) (hv : 0 ≤ v ∧ v ≤ 18446744073709551615) (hb : b.length ≤ 140737488351232) : Ev (fun k => octets_Put.f k b v n) (putOf b v n) := by
  unfold octets_Put.f putOf
  by_cases hn : n < 1 ∨ 8 < n
  · rw [if_pos hn]
    refine Ev.congr (f := fun _ => some ([], 1)) (fun k => ?_) (Ev.now _)
    rw [octets_PutAll.f, sized_, Option.bind_some, decide_eq_false (by omega), if_neg (by decide), Option.bind_some]
  · rw [if_neg hn]
    obtain ⟨m, rfl⟩ : ∃ m : Nat, n = (m : Int) := ⟨n.toNat, by omega⟩
    have h := putAll_ b m [v] (by omega) (by simpa using hv) (by simp) (by simp; omega)
    refine Ev.bind h ?_
    simp only [putAllOf, Int.toNat_natCast]
    by_cases hf : v < 256 ^ m
    · simp only [if_pos hf]
      exact Ev.now _
    · simp only [if_neg hf]
      exact Ev.now _
theorem div_next (v : Int) (i : Nat) : v / 256 ^ i / 256 = v / 256 ^ (i + 1) := by
  rw [Int.pow_succ]
  exact Int.ediv_ediv_of_nonneg (Int.le_of_lt (pow_pos i))
theorem div_in (v : Int) (hv : 0 ≤ v ∧ v ≤ 18446744073709551615) (i : Nat) : 0 ≤ v / 256 ^ i ∧ v / 256 ^ i ≤ 18446744073709551615 :=
  ⟨Int.ediv_nonneg hv.1 (Int.le_of_lt (pow_pos i)), Int.le_trans (Int.ediv_le_self _ hv.1) hv.2⟩
theorem ref_fits_from (v : Int) (hv : 0 ≤ v ∧ v ≤ 18446744073709551615) (n : Nat) (hn : n ≤ 8) (d : Nat) : ∀ i : Nat, i + d = n →
    Ev (fun k => plinthref01_fits.l0 k (v / 256 ^ i) (n : Int) (i : Int)) (v / 256 ^ n == 0) := by
  induction d with
  | zero =>
    intro i h
    obtain rfl : i = n := by omega
    refine Ev.step (f := fun _ => some (v / 256 ^ i == 0)) (fun k => ?_) (Ev.now _)
    rw [plinthref01_fits.l0, if_neg (by omega)]
  | succ d ih =>
    intro i h
    have hq := div_in v hv i
    have hq2 := div_in v hv (i + 1)
    refine Ev.step (f := fun k => plinthref01_fits.l0 k (v / 256 ^ (i + 1)) (n : Int) ((i + 1 : Nat) : Int)) (fun k => ?_) (ih (i + 1) (by omega))
    rw [plinthref01_fits.l0, if_pos (by omega), Int.tdiv_eq_ediv_of_nonneg hq.1, div_next, u64_in _ hq2.1 hq2.2, wrap_next i n (by omega) (by omega)]
theorem div_zero_iff (v : Int) (hv : 0 ≤ v) (n : Nat) : v / 256 ^ n = 0 ↔ v < 256 ^ n := by
  constructor
  · intro h0
    have h1 := Int.emod_add_mul_ediv v (256 ^ n)
    have h2 := Int.emod_lt_of_pos v (pow_pos n)
    rw [h0, Int.mul_zero] at h1
    omega
  · intro h0
    exact Int.ediv_eq_zero_of_lt hv h0
theorem ref_fits (v : Int) (hv : 0 ≤ v ∧ v ≤ 18446744073709551615) (n : Nat) (hn : n ≤ 8) : Ev (fun k => plinthref01_fits.f k v (n : Int)) (decide (v < 256 ^ n)) := by
  have h := ref_fits_from v hv n hn n 0 (by omega)
  have e : decide (v < 256 ^ n) = (v / 256 ^ n == 0) := by
    have := div_zero_iff v hv.1 n
    by_cases h0 : v < 256 ^ n
    · rw [this.2 h0]
      simp [h0]
    · have h1 : ¬ v / 256 ^ n = 0 := fun z => h0 (this.1 z)
      simp [h1, h0]
  rw [e]
  refine Ev.congr (fun k => ?_) h
  rw [plinthref01_fits.f, Int.pow_zero, Int.ediv_one]
  rfl
theorem refAll_one (v : Int) (hv : 0 ≤ v ∧ v ≤ 18446744073709551615) (n : Nat) (hn : n ≤ 8) (l : List Int) (i : Int) (r : List Int × Int) (d : Nat) : ∀ (j : Nat) (b : List Int), j + d = n → (b ++ le v j).length + d < 140737488355328 →
    Ev (fun k => plinthref01_PutAll.l0 k (n : Int) l (b ++ le v n) (wrap64 (i + 1))) r → Ev (fun k => plinthref01_PutAll.l1 k (n : Int) l (b ++ le v j) i (v / 256 ^ j) (j : Int)) r := by
  induction d with
  | zero =>
    intro j b h hb hr
    refine Ev.step (f := fun k => plinthref01_PutAll.l0 k (n : Int) l (b ++ le v n) (wrap64 (i + 1))) (fun k => ?_) hr
    rw [plinthref01_PutAll.l1, if_neg (by omega), show j = n by omega]
  | succ d ih =>
    intro j b h hb hr
    have hd := div_in v hv j
    refine Ev.step (f := fun k => plinthref01_PutAll.l1 k (n : Int) l (b ++ le v (j + 1)) i (v / 256 ^ (j + 1)) ((j + 1 : Nat) : Int)) (fun k => ?_) (ih (j + 1) b (by omega) (by rw [List.length_append, le_length] at hb ⊢; omega) hr)
    rw [plinthref01_PutAll.l1, if_pos (by omega), if_pos (by omega), wrap_next j n (by omega) (by omega), Int.tmod_eq_emod_of_nonneg hd.1, Int.tdiv_eq_ediv_of_nonneg hd.1, div_next, u64_in _ (div_in v hv (j + 1)).1 (div_in v hv (j + 1)).2, le_succ, List.append_assoc]
    rw [show v / 256 ^ j % 256 % 256 = v / 256 ^ j % 256 by omega]
theorem refAll_from (l : List Int) (hl : ∀ v ∈ l, 0 ≤ v ∧ v ≤ 18446744073709551615) (hm : l.length ≤ 9223372036854775807) (d : Nat) : ∀ (i : Nat) (b : List Int), i + d = l.length → b.length + 8 * d < 140737488355328 →
    Ev (fun k => plinthref01_PutAll.l0 k 8 l b (i : Int)) (putAllOf b 8 (l.drop i)) := by
  induction d with
  | zero =>
    intro i b h hb
    refine Ev.step (f := fun _ => some (b, 0)) (fun k => ?_) ?_
    · rw [plinthref01_PutAll.l0, if_neg (by omega)]
    · rw [List.drop_of_length_le (by omega)]
      exact Ev.now _
  | succ d ih =>
    intro i b h hb
    have hi : i < l.length := by omega
    have hv := hl (rd l (i : Int)) (by rw [rd_nat l i hi]; exact List.getElem_mem hi)
    rw [drop_rd l i hi, putAllOf]
    have hf : rd l (i : Int) < 256 ^ 8 := by have := hv.2; omega
    rw [if_pos hf]
    refine Ev.step (f := fun k => (plinthref01_fits.f k (rd l (i : Int)) 8).bind fun t => if t = true then plinthref01_PutAll.l1 k 8 l b (i : Int) (rd l (i : Int)) 0 else some ([], 5)) (fun k => ?_) ?_
    · rw [plinthref01_PutAll.l0, if_pos (by omega), if_pos (by omega)]
    · refine Ev.bind (ref_fits _ hv 8 (Nat.le_refl _)) ?_
      simp only [decide_eq_true hf, if_true]
      have := refAll_one (rd l (i : Int)) hv 8 (Nat.le_refl _) l (i : Int) _ 8 0 b rfl (by rw [le_zero, List.append_nil]; omega) (by rw [wrap_next i l.length hi hm]; exact ih (i + 1) (b ++ le (rd l (i : Int)) 8) (by omega) (by rw [List.length_append, le_length]; omega))
      refine Ev.congr (fun k => ?_) this
      simp [le_zero]
theorem ref_PutAll (l : List Int) (hl : ∀ v ∈ l, 0 ≤ v ∧ v ≤ 18446744073709551615) (hm : l.length ≤ 1000) : Ev (fun k => plinthref01_PutAll.f k [] 8 l) (putAllOf [] 8 l) := by
  refine Ev.congr (f := fun k => plinthref01_PutAll.j0 k [] 8 l false) (fun k => ?_) ?_
  · rw [plinthref01_PutAll.f, if_neg (by omega)]
    rfl
  · refine Ev.step (f := fun k => plinthref01_PutAll.l0 k 8 l [] 0) (fun k => ?_) (refAll_from l hl (by omega) l.length 0 [] (by omega) (by simp; omega))
    rw [plinthref01_PutAll.j0, if_neg (by decide), Option.bind_some, if_pos (by simp)]
    rfl
end Go.Proofs.Ytbmmddngadnofaa.Octets

/- Trees of digests: what program and reference compute, in plain words. -/
namespace Go.Proofs.Ytbmmddngadnofaa.Tree
open Go.RowKit Go.Proofs.Ytbmmddngadnofaa.F Go.Proofs.Ytbmmddngadnofaa.Bytes Go.Proofs.Ytbmmddngadnofaa.Octets Go.Proofs.YtbmmddngadnofaaW.PrintWords Go.Proofs.YtbmmddngadnofaaW.PrintLast Go.Proofs.YtbmmddngadnofaaW.PrintMore

def isDig (l : List Int) : Prop := ∀ x ∈ l, 0 ≤ x ∧ x ≤ 4294967295
theorem isDig_of {l : List Int} (h : ∀ x ∈ l, (Lit.int .u32 x).wf = true) : isDig l := fun x hx => bounds_u32 (h x hx)
theorem isDig_take {l : List Int} (n : Nat) (h : isDig l) : isDig (l.take n) := fun x hx => h x (List.mem_of_mem_take hx)
theorem isDig_drop {l : List Int} (n : Nat) (h : isDig l) : isDig (l.drop n) := fun x hx => h x (List.mem_of_mem_drop hx)
def digs (l : List Int) : List Int := l.flatMap fun d => le d 4
theorem digs_length (l : List Int) : (digs l).length = 4 * l.length := by
  induction l with
  | nil => rfl
  | cons d l ih =>
    rw [digs, List.flatMap_cons, List.length_append, le_length, show (List.flatMap (fun d => le d 4) l).length = 4 * l.length from ih, List.length_cons]
    omega
theorem digs_snoc (l : List Int) (d : Int) : digs (l ++ [d]) = digs l ++ le d 4 := by simp [digs]
/-- A row's digest. -/
def rowD (l : List Int) : Int := Crc.I (Crc.sum 0#32 (digs l))
theorem rowD_range (l : List Int) : 0 ≤ rowD l ∧ rowD l ≤ 4294967295 := by have := Crc.I_range (Crc.sum 0#32 (digs l)); unfold rowD; omega
theorem rd_dig {l : List Int} (h : isDig l) (i : Nat) (hi : i < l.length) : 0 ≤ rd l (i : Int) ∧ rd l (i : Int) ≤ 4294967295 := by
  rw [rd_nat l i hi]
  exact h _ (List.getElem_mem hi)
theorem row_from (l : List Int) (hd : isDig l) (hl : 4 * l.length ≤ 140737488351232) (n : Nat) : ∀ i : Nat, i + n = l.length →
    Ev (fun k => tree_Row.l0 k (digs (l.take i)) l (l.length : Int) (i : Int)) (rowD l) := by
  induction n with
  | zero =>
    intro i h
    refine Ev.step (f := fun k => (crc_Sum.f k [digs l]).bind fun t => some t) (fun k => ?_) ?_
    · rw [tree_Row.l0, if_neg (by omega), List.take_of_length_le (by omega)]
    · have := Crc.all [digs l] (by simp) (by intro b hb; rw [List.mem_singleton.1 hb, digs_length]; omega)
      exact Ev.bind this (Ev.now _)
  | succ n ih =>
    intro i h
    have hi : i < l.length := by omega
    have hr := rd_dig hd i hi
    have hlen : (digs (l.take i)).length = 4 * i := by rw [digs_length, List.length_take]; omega
    refine Ev.step (f := fun k => (octets_Put.f k (digs (l.take i)) (rd l (i : Int)) 4).bind fun bt => tree_Row.l0 k bt.1 l (l.length : Int) ((i + 1 : Nat) : Int)) (fun k => ?_) ?_
    · rw [tree_Row.l0, if_pos (by omega), if_pos (by omega), if_pos (by omega), u64_in _ hr.1 (by omega), wrap_next i l.length hi (by omega)]
    · refine Ev.bind (Put_ (digs (l.take i)) (rd l (i : Int)) 4 ⟨hr.1, by omega⟩ (by omega)) ?_
      have e : (putOf (digs (l.take i)) (rd l (i : Int)) 4).1 = digs (l.take (i + 1)) := by
        rw [take_rd l i hi, digs_snoc, putOf, if_neg (by omega), if_pos (by have := hr.2; show rd l (i : Int) < 256 ^ 4; omega)]
        rfl
      rw [e]
      exact ih (i + 1) (by omega)
theorem Row_ (l : List Int) (hd : isDig l) (hl : 4 * l.length ≤ 140737488351232) : Ev (fun k => tree_Row.f k l) (rowD l) :=
  Ev.congr (fun k => rfl) (row_from l hd hl l.length 0 (by omega))
theorem le4 (v : Int) : [v % 256, v / 256 % 256, v / 65536 % 256, v / 16777216 % 256] = le v 4 := by
  rw [le_succ, le_succ, le_succ, le_succ, le_zero]
  simp
theorem ref_row_from (l : List Int) (hl : 4 * l.length ≤ 140737488351232) (n : Nat) : ∀ i : Nat, i + n = l.length →
    Ev (fun k => plinthref25_Row.l0 k l (digs (l.take i)) (i : Int)) (rowD l) := by
  induction n with
  | zero =>
    intro i h
    refine Ev.step (f := fun k => (plinthref02_Of.f k (digs l)).bind fun t => some t) (fun k => ?_) ?_
    · rw [plinthref25_Row.l0, if_neg (by omega), List.take_of_length_le (by omega)]
    · exact Ev.bind (Crc.ref_of (digs l) (by rw [digs_length]; omega)) (Ev.now _)
  | succ n ih =>
    intro i h
    have hi : i < l.length := by omega
    have hlen : (digs (l.take i)).length = 4 * i := by rw [digs_length, List.length_take]; omega
    refine Ev.step (f := fun k => plinthref25_Row.l0 k l (digs (l.take (i + 1))) ((i + 1 : Nat) : Int)) (fun k => ?_) (ih (i + 1) (by omega))
    rw [plinthref25_Row.l0, if_pos (by omega), if_pos (by omega), Option.bind_some, le4, if_pos (by rw [hlen, le_length]; omega), wrap_next i l.length hi (by omega), take_rd l i hi, digs_snoc]
theorem ref_Row (l : List Int) (hl : 4 * l.length ≤ 140737488351232) : Ev (fun k => plinthref25_Row.f k l) (rowD l) :=
  Ev.congr (fun k => rfl) (ref_row_from l hl l.length 0 (by omega))
/-- The level above one. -/
def part (l : List Int) (j : Nat) : List Int := (l.take (4 * j + 4)).drop (4 * j)
def up (l : List Int) : List Int := (List.range ((l.length + 3) / 4)).map fun j => rowD (part l j)
theorem up_length (l : List Int) : (up l).length = (l.length + 3) / 4 := by simp [up]
theorem up_dig (l : List Int) : isDig (up l) := by
  intro x hx
  obtain ⟨j, _, rfl⟩ := List.mem_map.1 hx
  exact rowD_range _
def ups (l : List Int) (j : Nat) : List Int := (List.range j).map fun j => rowD (part l j)
theorem ups_succ (l : List Int) (j : Nat) : ups l (j + 1) = ups l j ++ [rowD (part l j)] := by simp [ups, List.range_succ]
theorem part_dig {l : List Int} (h : isDig l) (j : Nat) : isDig (part l j) := isDig_drop _ (isDig_take _ h)
theorem part_length (l : List Int) (j : Nat) : (part l j).length ≤ 4 := by rw [part, List.length_drop, List.length_take]; omega
theorem above_from (l : List Int) (hd : isDig l) (hl : l.length < 35184372088832) (n : Nat) : ∀ j : Nat, 4 * j + n = l.length + 3 →
    Ev (fun k => tree_above.l0 k l (ups l j) ((4 * j : Nat) : Int)) (up l) := by
  induction n using Nat.strongRecOn with
  | ind n ih =>
    intro j h
    by_cases hj : 4 * j < l.length
    · have hx : ((l.take (((4 * j : Nat) : Int) + (if (4 : Int) ≤ (l.length : Int) - ((4 * j : Nat) : Int) then 4 else (l.length : Int) - ((4 * j : Nat) : Int))).toNat).drop (((4 * j : Nat) : Int)).toNat) = part l j := by
        by_cases h4 : (4 : Int) ≤ (l.length : Int) - ((4 * j : Nat) : Int)
        · rw [if_pos h4, part]
          congr 2
        · rw [if_neg h4, part, List.take_of_length_le (i := 4 * j + 4) (by omega), List.take_of_length_le (by omega)]
          congr 1
      refine Ev.step (f := fun k => (tree_Row.f k (part l j)).bind fun r => tree_above.l0 k l (ups l j ++ [r]) ((4 * (j + 1) : Nat) : Int)) (fun k => ?_) ?_
      · rw [tree_above.l0, if_pos (by omega), if_pos hl, hx]
        congr 1
      · refine Ev.bind (Row_ (part l j) (part_dig hd j) (by have := part_length l j; omega)) ?_
        rw [← ups_succ]
        exact ih (n - 4) (by omega) (j + 1) (by omega)
    · refine Ev.step (f := fun _ => some (ups l j)) (fun k => ?_) ?_
      · rw [tree_above.l0, if_neg (by omega)]
      · rw [show ups l j = up l from by rw [up, ups, show (l.length + 3) / 4 = j by omega]]
        exact Ev.now _
theorem above_ (l : List Int) (hd : isDig l) (hl : l.length < 35184372088832) : Ev (fun k => tree_above.f k l) (up l) :=
  Ev.congr (fun k => rfl) (above_from l hd hl (l.length + 3) 0 (by omega))
end Go.Proofs.Ytbmmddngadnofaa.Tree

/- Trees of digests: what Make makes, which trees may be, two trees held against each other. -/
namespace Go.Proofs.Ytbmmddngadnofaa.Tree
open Go.RowKit Go.Proofs.Ytbmmddngadnofaa.F Go.Proofs.Ytbmmddngadnofaa.Bytes Go.Proofs.Ytbmmddngadnofaa.Octets Go.Proofs.YtbmmddngadnofaaW.PrintWords Go.Proofs.YtbmmddngadnofaaW.PrintLast Go.Proofs.YtbmmddngadnofaaW.PrintMore

/-! ### a row of a level -/
theorem mn_nat (a b : Nat) : mn (a : Int) (b : Int) = ((min a b : Nat) : Int) := by unfold mn; split <;> omega
theorem take_min (l : List Int) (n : Nat) : l.take (min n l.length) = l.take n := by
  rcases Nat.le_total n l.length with h | h
  · rw [Nat.min_eq_left h]
  · rw [Nat.min_eq_right h, List.take_of_length_le (Nat.le_refl _), List.take_of_length_le h]
theorem row_ (l : List Int) (i : Nat) (hi : i < l.length) (hl : l.length ≤ 4611686018427387904) : tree_row.f l (i : Int) = some (part l (i / 4), ((4 * (i / 4) : Nat) : Int)) := by
  have e1 : wrap64 ((i : Int) - Int.tmod (i : Int) 4) = ((4 * (i / 4) : Nat) : Int) := by
    rw [Int.tmod_eq_emod_of_nonneg (by omega)]
    unfold wrap64
    omega
  have e2 : wrap64 (((4 * (i / 4) : Nat) : Int) + 4) = ((4 * (i / 4) + 4 : Nat) : Int) := by
    unfold wrap64
    omega
  unfold tree_row.f
  rw [e1, e2, mn_nat, if_pos (by omega), if_pos (by omega), if_pos (by omega), Int.toNat_natCast, Int.toNat_natCast, take_min]
  rfl
theorem ref_row (l : List Int) (i : Nat) (hi : i < l.length) (hl : l.length ≤ 30000000000000) : plinthref25_row.f l (i : Int) = some (part l (i / 4)) := by
  have e0 : wrap64 (Int.tdiv (i : Int) 4) = ((i / 4 : Nat) : Int) := by
    rw [Int.tdiv_eq_ediv_of_nonneg (by omega)]
    unfold wrap64
    omega
  have e1 : wrap64 (((i / 4 : Nat) : Int) * 4) = ((4 * (i / 4) : Nat) : Int) := by
    unfold wrap64
    omega
  have e2 : wrap64 (((4 * (i / 4) : Nat) : Int) + 4) = ((4 * (i / 4) + 4 : Nat) : Int) := by
    unfold wrap64
    omega
  unfold plinthref25_row.f
  rw [e0, e1, e2, mn_nat, Option.bind_some, if_pos (by omega), if_pos (by omega), if_pos (by omega), Int.toNat_natCast, Int.toNat_natCast, take_min, Option.bind_some, if_pos (by have := part_length l (i / 4); rw [part] at this; simp only [List.length_nil]; omega), List.nil_append]
  rfl
/-! ### Make -/
def lv : Nat → List Int → List (List Int)
  | 0, _ => []
  | n + 1, l => l :: (if 1 < l.length then lv n (up l) else [])
def rest (n : Nat) (l : List Int) : List (List Int) := if 1 < l.length then lv n (up l) else []
def tree (l : List Int) : List (List Int) := lv 7 l
theorem lv_succ (n : Nat) (l : List Int) : lv (n + 1) l = l :: rest n l := rfl
theorem tree_eq (l : List Int) : tree l = l :: rest 6 l := rfl
theorem lv_length (n : Nat) : ∀ l : List Int, (lv n l).length ≤ n := by
  induction n with
  | zero => intro l; simp [lv]
  | succ n ih =>
    intro l
    rw [lv]
    split
    · have := ih (up l); simp only [List.length_cons]; omega
    · simp
theorem pow4 (n : Nat) : 4 ^ (n + 1) = 4 * 4 ^ n := by rw [Nat.pow_succ, Nat.mul_comm]
theorem up_small {n : Nat} {l : List Int} (h : l.length ≤ 4 ^ (n + 1)) : (up l).length ≤ 4 ^ n := by
  rw [up_length]
  rw [pow4] at h
  omega
theorem make_from (n : Nat) : ∀ (acc : List (List Int)) (l : List Int), isDig l → l.length ≤ 4 ^ n → l.length ≤ 4096 → acc.length + n < 1000 → Ev (fun k => tree_Make.l0 k acc l) (acc ++ rest n l) := by
  induction n with
  | zero =>
    intro acc l hd hl _ ha
    refine Ev.step (f := fun _ => some acc) (fun k => ?_) ?_
    · rw [tree_Make.l0, if_neg (by omega)]
    · rw [rest, if_neg (by omega), List.append_nil]
      exact Ev.now _
  | succ n ih =>
    intro acc l hd hl hl2 ha
    by_cases h1 : 1 < l.length
    · refine Ev.step (f := fun k => (tree_above.f k l).bind fun u => if u.length < l.length then tree_Make.l0 k (acc ++ [u]) u else none) (fun k => ?_) ?_
      · rw [tree_Make.l0, if_pos h1, if_pos (by omega)]
      · refine Ev.bind (above_ l hd (by omega)) ?_
        simp only [up_length, if_pos (show (l.length + 3) / 4 < l.length by omega)]
        rw [rest, if_pos h1, lv_succ, show acc ++ up l :: rest n (up l) = (acc ++ [up l]) ++ rest n (up l) by simp]
        exact ih _ _ (up_dig l) (up_small hl) (by rw [up_length]; omega) (by simp; omega)
    · refine Ev.step (f := fun _ => some acc) (fun k => ?_) ?_
      · rw [tree_Make.l0, if_neg h1]
      · rw [rest, if_neg h1, List.append_nil]
        exact Ev.now _
def makeOf (l : List Int) : List (List Int) × Int := if 1 ≤ l.length ∧ l.length ≤ 4096 then (tree l, 0) else ([], 250)
theorem Make_ (l : List Int) (hd : 1 ≤ l.length ∧ l.length ≤ 4096 → isDig l) : Ev (fun k => tree_Make.f k l) (makeOf l) := by
  unfold makeOf
  by_cases h : 1 ≤ l.length ∧ l.length ≤ 4096
  · rw [if_pos h]
    have hc : slices_Clone_uint32_uint32.f l = some l := by rw [slices_Clone_uint32_uint32.f, Option.bind_some, if_pos (by simp; omega), List.nil_append]
    refine Ev.congr (f := fun k => (tree_Make.l0 k [l] l).bind fun r => some (r, 0)) (fun k => ?_) ?_
    · rw [tree_Make.f, if_neg (by omega), if_neg (by omega), hc, Option.bind_some]
    · exact Ev.bind (make_from 6 [l] l (hd h) (by omega) h.2 (by simp)) (Ev.now _)
  · rw [if_neg h]
    refine Ev.congr (f := fun _ => some ([], 250)) (fun k => ?_) (Ev.now _)
    rw [tree_Make.f]
    by_cases h1 : l.length < 1
    · rw [if_pos h1]
    · rw [if_neg h1, if_pos (by omega)]
theorem ref_above_from (l : List Int) (hl : l.length ≤ 4096) (n : Nat) : ∀ j : Nat, 4 * j + n = l.length + 3 →
    Ev (fun k => plinthref25_Make.l1 k l (ups l j) ((4 * j : Nat) : Int)) (up l) := by
  induction n using Nat.strongRecOn with
  | ind n ih =>
    intro j h
    by_cases hj : 4 * j < l.length
    · have e := ref_row l (4 * j) hj (by omega)
      rw [show 4 * j / 4 = j by omega] at e
      refine Ev.step (f := fun k => (plinthref25_Row.f k (part l j)).bind fun d => plinthref25_Make.l1 k l (ups l j ++ [d]) ((4 * (j + 1) : Nat) : Int)) (fun k => ?_) ?_
      · rw [plinthref25_Make.l1, if_pos (by omega), if_pos hl, e, Option.bind_some]
        congr 1
      · refine Ev.bind (ref_Row (part l j) (by have := part_length l j; omega)) ?_
        rw [← ups_succ]
        exact ih (n - 4) (by omega) (j + 1) (by omega)
    · refine Ev.step (f := fun _ => some (ups l j)) (fun k => ?_) ?_
      · rw [plinthref25_Make.l1, if_neg (by omega)]
      · rw [show ups l j = up l from by rw [up, ups, show (l.length + 3) / 4 = j by omega]]
        exact Ev.now _
theorem ref_make_from (n : Nat) : ∀ (acc : List (List Int)) (l : List Int), l.length ≤ 4 ^ n → l.length ≤ 4096 → acc.length + n < 1000 → Ev (fun k => plinthref25_Make.l0 k acc l) (acc ++ rest n l) := by
  induction n with
  | zero =>
    intro acc l hl _ ha
    refine Ev.step (f := fun _ => some acc) (fun k => ?_) ?_
    · rw [plinthref25_Make.l0, if_neg (by omega)]
    · rw [rest, if_neg (by omega), List.append_nil]
      exact Ev.now _
  | succ n ih =>
    intro acc l hl hl2 ha
    by_cases h1 : 1 < l.length
    · refine Ev.step (f := fun k => (plinthref25_Make.l1 k l [] 0).bind fun u => if u.length < l.length then plinthref25_Make.l0 k (acc ++ [u]) u else none) (fun k => ?_) ?_
      · rw [plinthref25_Make.l0, if_pos h1, if_pos (by omega)]
      · refine Ev.bind (ref_above_from l hl2 (l.length + 3) 0 (by omega)) ?_
        simp only [up_length, if_pos (show (l.length + 3) / 4 < l.length by omega)]
        rw [rest, if_pos h1, lv_succ, show acc ++ up l :: rest n (up l) = (acc ++ [up l]) ++ rest n (up l) by simp]
        exact ih _ _ (up_small hl) (by rw [up_length]; omega) (by simp; omega)
    · refine Ev.step (f := fun _ => some acc) (fun k => ?_) ?_
      · rw [plinthref25_Make.l0, if_neg h1]
      · rw [rest, if_neg h1, List.append_nil]
        exact Ev.now _
theorem ref_Make (l : List Int) : Ev (fun k => plinthref25_Make.f k l) (makeOf l) := by
  unfold makeOf
  by_cases h : 1 ≤ l.length ∧ l.length ≤ 4096
  · rw [if_pos h]
    refine Ev.congr (f := fun k => (plinthref25_Make.l0 k [l] l).bind fun r => some (r, 0)) (fun k => ?_) ?_
    · rw [plinthref25_Make.f, if_neg (by omega), if_neg (by omega)]
    · exact Ev.bind (ref_make_from 6 [l] l (by omega) h.2 (by simp)) (Ev.now _)
  · rw [if_neg h]
    refine Ev.congr (f := fun _ => some ([], 250)) (fun k => ?_) (Ev.now _)
    rw [plinthref25_Make.f]
    by_cases h1 : l.length < 1
    · rw [if_pos h1]
    · rw [if_neg h1, if_pos (by omega)]
/-! ### two alike -/
theorem rd_L1_nat (l : List (List Int)) (i : Nat) (h : i < l.length) : rd_L1 l (i : Int) = l[i] := by simp [rd_L1, h]
theorem drop_L1 (l : List (List Int)) (i : Nat) (h : i < l.length) : l.drop i = rd_L1 l (i : Int) :: l.drop (i + 1) := by
  rw [rd_L1_nat l i h, List.drop_eq_getElem_cons h]
theorem rows_from (a b : List Int) (h : a.length = b.length) (hl : a.length ≤ 9223372036854775807) (d : Nat) : ∀ i : Nat, i + d = a.length →
    Ev (fun k => slices_Equal_uint32_uint32.l0 k a b (a.length : Int) (i : Int)) (decide (a.drop i = b.drop i)) := by
  induction d with
  | zero =>
    intro i hi
    refine Ev.step (f := fun _ => some true) (fun k => ?_) ?_
    · rw [slices_Equal_uint32_uint32.l0, if_neg (by omega)]
    · rw [List.drop_of_length_le (by omega), List.drop_of_length_le (by omega)]
      exact Ev.now _
  | succ d ih =>
    intro i hi
    have e1 := drop_rd a i (by omega)
    have e2 := drop_rd b i (by omega)
    by_cases he : rd a (i : Int) = rd b (i : Int)
    · refine Ev.step (f := fun k => slices_Equal_uint32_uint32.l0 k a b (a.length : Int) ((i + 1 : Nat) : Int)) (fun k => ?_) ?_
      · rw [slices_Equal_uint32_uint32.l0, if_pos (by omega), if_pos (by omega), if_pos (by omega), if_pos (by omega), if_pos he, wrap_next i a.length (by omega) hl]
      · rw [e1, e2, he]
        simp only [List.cons.injEq, true_and]
        exact ih (i + 1) (by omega)
    · refine Ev.step (f := fun _ => some false) (fun k => ?_) ?_
      · rw [slices_Equal_uint32_uint32.l0, if_pos (by omega), if_pos (by omega), if_pos (by omega), if_pos (by omega), if_neg he]
      · rw [e1, e2, decide_eq_false (by simp [he])]
        exact Ev.now _
theorem Equal_ (a b : List Int) (hl : a.length ≤ 9223372036854775807) : Ev (fun k => slices_Equal_uint32_uint32.f k a b) (decide (a = b)) := by
  by_cases h : a.length = b.length
  · have := rows_from a b h hl a.length 0 (by omega)
    refine Ev.congr (fun k => ?_) this
    rw [slices_Equal_uint32_uint32.f, if_pos (by omega)]
    rfl
  · refine Ev.congr (f := fun _ => some false) (fun k => ?_) ?_
    · rw [slices_Equal_uint32_uint32.f, if_neg (by omega)]
    · rw [decide_eq_false (by rintro rfl; exact h rfl)]
      exact Ev.now _
theorem ref_rows_from (a b : List Int) (h : a.length = b.length) (hl : a.length ≤ 9223372036854775807) (d : Nat) : ∀ i : Nat, i + d = a.length →
    Ev (fun k => plinthref25_SameRow.l0 k a b (i : Int)) (decide (a.drop i = b.drop i)) := by
  induction d with
  | zero =>
    intro i hi
    refine Ev.step (f := fun _ => some true) (fun k => ?_) ?_
    · rw [plinthref25_SameRow.l0, if_neg (by omega)]
    · rw [List.drop_of_length_le (by omega), List.drop_of_length_le (by omega)]
      exact Ev.now _
  | succ d ih =>
    intro i hi
    have e1 := drop_rd a i (by omega)
    have e2 := drop_rd b i (by omega)
    by_cases he : rd a (i : Int) = rd b (i : Int)
    · refine Ev.step (f := fun k => plinthref25_SameRow.l0 k a b ((i + 1 : Nat) : Int)) (fun k => ?_) ?_
      · rw [plinthref25_SameRow.l0, if_pos (by omega), if_pos (by omega), if_pos (by omega), if_pos he, wrap_next i a.length (by omega) hl]
      · rw [e1, e2, he]
        simp only [List.cons.injEq, true_and]
        exact ih (i + 1) (by omega)
    · refine Ev.step (f := fun _ => some false) (fun k => ?_) ?_
      · rw [plinthref25_SameRow.l0, if_pos (by omega), if_pos (by omega), if_pos (by omega), if_neg he]
      · rw [e1, e2, decide_eq_false (by simp [he])]
        exact Ev.now _
theorem SameRow_ (a b : List Int) (hl : a.length ≤ 9223372036854775807) : Ev (fun k => plinthref25_SameRow.f k a b) (decide (a = b)) := by
  by_cases h : a.length = b.length
  · have := ref_rows_from a b h hl a.length 0 (by omega)
    refine Ev.congr (fun k => ?_) this
    rw [plinthref25_SameRow.f, if_pos (by omega)]
    rfl
  · refine Ev.congr (f := fun _ => some false) (fun k => ?_) ?_
    · rw [plinthref25_SameRow.f, if_neg (by omega)]
    · rw [decide_eq_false (by rintro rfl; exact h rfl)]
      exact Ev.now _
def thin (t : List (List Int)) : Prop := t.length ≤ 4611686018427387904 ∧ ∀ r ∈ t, r.length ≤ 4611686018427387904
theorem same_from (a b : List (List Int)) (h : a.length = b.length) (ha : thin a) (d : Nat) : ∀ i : Nat, i + d = a.length →
    Ev (fun k => tree_Same.l0 k (i : Int) a b) (decide (a.drop i = b.drop i)) := by
  induction d with
  | zero =>
    intro i hi
    refine Ev.step (f := fun _ => some true) (fun k => ?_) ?_
    · rw [tree_Same.l0, if_neg (by omega)]
    · rw [List.drop_of_length_le (by omega), List.drop_of_length_le (by omega)]
      exact Ev.now _
  | succ d ih =>
    intro i hi
    have e1 := drop_L1 a i (by omega)
    have e2 := drop_L1 b i (by omega)
    have hr : (rd_L1 a (i : Int)).length ≤ 9223372036854775807 := by
      rw [rd_L1_nat a i (by omega)]
      have := ha.2 _ (List.getElem_mem (show i < a.length by omega))
      omega
    refine Ev.step (f := fun k => (slices_Equal_uint32_uint32.f k (rd_L1 a (i : Int)) (rd_L1 b (i : Int))).bind fun x => if x = true then tree_Same.l0 k ((i + 1 : Nat) : Int) a b else some false) (fun k => ?_) ?_
    · rw [tree_Same.l0, if_pos (by omega), if_pos (by omega)]
      rfl
    · refine Ev.bind (Equal_ _ _ hr) ?_
      rw [e1, e2]
      by_cases he : rd_L1 a (i : Int) = rd_L1 b (i : Int)
      · simp only [he, decide_true, if_true, List.cons.injEq, true_and]
        exact ih (i + 1) (by omega)
      · simp only [List.cons.injEq, he, false_and, decide_false]
        exact Ev.now _
theorem Same_ (a b : List (List Int)) (ha : thin a) : Ev (fun k => tree_Same.f k a b) (decide (a = b)) := by
  by_cases h : a.length = b.length
  · have := same_from a b h ha a.length 0 (by omega)
    refine Ev.congr (fun k => ?_) this
    rw [tree_Same.f, if_pos h, if_pos (by have := ha.1; omega)]
    rfl
  · refine Ev.congr (f := fun _ => some false) (fun k => ?_) ?_
    · rw [tree_Same.f, if_neg h]
    · rw [decide_eq_false (by rintro rfl; exact h rfl)]
      exact Ev.now _
theorem ref_same_from (a b : List (List Int)) (h : a.length = b.length) (ha : thin a) (d : Nat) : ∀ i : Nat, i + d = a.length →
    Ev (fun k => plinthref25_Same.l0 k (i : Int) a b) (decide (a.drop i = b.drop i)) := by
  induction d with
  | zero =>
    intro i hi
    refine Ev.step (f := fun _ => some true) (fun k => ?_) ?_
    · rw [plinthref25_Same.l0, if_neg (by omega)]
    · rw [List.drop_of_length_le (by omega), List.drop_of_length_le (by omega)]
      exact Ev.now _
  | succ d ih =>
    intro i hi
    have e1 := drop_L1 a i (by omega)
    have e2 := drop_L1 b i (by omega)
    have h1 := ha.1
    have hr : (rd_L1 a (i : Int)).length ≤ 9223372036854775807 := by
      rw [rd_L1_nat a i (by omega)]
      have := ha.2 _ (List.getElem_mem (show i < a.length by omega))
      omega
    refine Ev.step (f := fun k => (plinthref25_SameRow.f k (rd_L1 a (i : Int)) (rd_L1 b (i : Int))).bind fun x => if x = true then plinthref25_Same.l0 k ((i + 1 : Nat) : Int) a b else some false) (fun k => ?_) ?_
    · rw [plinthref25_Same.l0, if_pos (by omega), if_pos (by omega), if_pos (by omega), wrap_next i a.length (by omega) (by omega)]
    · refine Ev.bind (SameRow_ _ _ hr) ?_
      rw [e1, e2]
      by_cases he : rd_L1 a (i : Int) = rd_L1 b (i : Int)
      · simp only [he, decide_true, if_true, List.cons.injEq, true_and]
        exact ih (i + 1) (by omega)
      · simp only [List.cons.injEq, he, false_and, decide_false]
        exact Ev.now _
theorem ref_Same (a b : List (List Int)) (ha : thin a) : Ev (fun k => plinthref25_Same.f k a b) (decide (a = b)) := by
  by_cases h : a.length = b.length
  · have := ref_same_from a b h ha a.length 0 (by omega)
    refine Ev.congr (fun k => ?_) this
    rw [plinthref25_Same.f, if_pos (by omega)]
    rfl
  · refine Ev.congr (f := fun _ => some false) (fun k => ?_) ?_
    · rw [plinthref25_Same.f, if_neg (by omega)]
    · rw [decide_eq_false (by rintro rfl; exact h rfl)]
      exact Ev.now _
/-! ### which trees may be -/
def base (t : List (List Int)) : List Int := rd_L1 t 0
def good (t : List (List Int)) : Prop := (1 ≤ (base t).length ∧ (base t).length ≤ 4096) ∧ t = tree (base t)
instance (t : List (List Int)) : Decidable (good t) := by unfold good; infer_instance
def checkOf (t : List (List Int)) : Int := if good t then 0 else 250
theorem base_in {t : List (List Int)} (h : t.length ≠ 0) : base t ∈ t := by
  have : base t = t[0] := rd_L1_nat t 0 (by omega)
  rw [this]
  exact List.getElem_mem _
theorem base_nil : base [] = [] := rfl
theorem not_good_nil : ¬ good [] := fun h => absurd h.1.1 (by rw [base_nil]; simp)
theorem Check_ (t : List (List Int)) (ht : thin t) (hd : ∀ r ∈ t, isDig r) : Ev (fun k => tree_Check.f k t) (checkOf t) := by
  unfold checkOf
  by_cases h0 : t.length = 0
  · obtain rfl := List.eq_nil_of_length_eq_zero h0
    rw [if_neg not_good_nil]
    exact Ev.congr (fun k => by rw [tree_Check.f, if_pos (by simp)]) (Ev.now _)
  · refine Ev.congr (f := fun k => (tree_Make.f k (base t)).bind fun u => if u.2 = 0 then (tree_Same.f k t u.1).bind fun x => if x = true then some 0 else some 250 else some 250) (fun k => ?_) ?_
    · rw [tree_Check.f, if_neg (by omega), if_pos (by omega)]
      rfl
    · refine Ev.bind (Make_ _ (fun _ => hd _ (base_in h0))) ?_
      unfold makeOf
      by_cases h1 : 1 ≤ (base t).length ∧ (base t).length ≤ 4096
      · simp only [if_pos h1, if_true]
        refine Ev.bind (Same_ t (tree (base t)) ht) ?_
        by_cases h2 : t = tree (base t)
        · rw [if_pos (show good t from ⟨h1, h2⟩)]
          simp only [decide_eq_true h2, if_true]
          exact Ev.now _
        · rw [if_neg (fun h : good t => h2 h.2)]
          simp only [decide_eq_false h2]
          exact Ev.now _
      · simp only [if_neg h1]
        rw [if_neg (fun h : good t => h1 h.1)]
        exact Ev.now _
theorem ref_Check (t : List (List Int)) (ht : thin t) : Ev (fun k => plinthref25_Check.f k t) (checkOf t) := by
  unfold checkOf
  by_cases h0 : t.length = 0
  · obtain rfl := List.eq_nil_of_length_eq_zero h0
    rw [if_neg not_good_nil]
    exact Ev.congr (fun k => by rw [plinthref25_Check.f, if_pos (by simp)]) (Ev.now _)
  · refine Ev.congr (f := fun k => (plinthref25_Make.f k (base t)).bind fun u => if u.2 = 0 then (plinthref25_Same.f k t u.1).bind fun x => if x = true then some 0 else some 250 else some 250) (fun k => ?_) ?_
    · rw [plinthref25_Check.f, if_neg (by omega), if_pos (by omega)]
      rfl
    · refine Ev.bind (ref_Make _) ?_
      unfold makeOf
      by_cases h1 : 1 ≤ (base t).length ∧ (base t).length ≤ 4096
      · simp only [if_pos h1, if_true]
        refine Ev.bind (ref_Same t (tree (base t)) ht) ?_
        by_cases h2 : t = tree (base t)
        · rw [if_pos (show good t from ⟨h1, h2⟩)]
          simp only [decide_eq_true h2, if_true]
          exact Ev.now _
        · rw [if_neg (fun h : good t => h2 h.2)]
          simp only [decide_eq_false h2]
          exact Ev.now _
      · simp only [if_neg h1]
        rw [if_neg (fun h : good t => h1 h.1)]
        exact Ev.now _
theorem good_ne {t : List (List Int)} (h : good t) : t.length ≠ 0 := by
  intro h0
  obtain rfl := List.eq_nil_of_length_eq_zero h0
  exact not_good_nil h
end Go.Proofs.Ytbmmddngadnofaa.Tree

/- Proofs of places of trees: what is proved, and which proofs hold. -/
namespace Go.Proofs.Ytbmmddngadnofaa.Tree
open Go.RowKit Go.Proofs.Ytbmmddngadnofaa.F Go.Proofs.Ytbmmddngadnofaa.Bytes Go.Proofs.Ytbmmddngadnofaa.Octets Go.Proofs.YtbmmddngadnofaaW.PrintWords Go.Proofs.YtbmmddngadnofaaW.PrintLast Go.Proofs.YtbmmddngadnofaaW.PrintMore

/-! ### the rows above a place -/
def path : List (List Int) → Nat → List (List Int)
  | [], _ => []
  | l :: ls, i => part l (i / 4) :: path ls (i / 4)
def stair : List (List Int) → Nat → Prop
  | [], _ => True
  | l :: ls, i => i < l.length ∧ l.length ≤ 4096 ∧ stair ls (i / 4)
theorem stair_lv (n : Nat) : ∀ (l : List Int) (i : Nat), i < l.length → l.length ≤ 4096 → stair (lv n l) i := by
  induction n with
  | zero => intro l i _ _; trivial
  | succ n ih =>
    intro l i hi hl
    refine ⟨hi, hl, ?_⟩
    split
    · exact ih _ _ (by rw [up_length]; omega) (by rw [up_length]; omega)
    · trivial
theorem stair_take (n : Nat) : ∀ (t : List (List Int)) (i : Nat), stair t i → stair (t.take n) i := by
  induction n with
  | zero => intro t i _; rw [List.take_zero]; trivial
  | succ n ih =>
    intro t i h
    cases t with
    | nil => trivial
    | cons l ls => exact ⟨h.1, h.2.1, ih ls _ h.2.2⟩
def atOf (t : List (List Int)) (i : Int) : Int := if good t then (if 0 ≤ i ∧ i < ((base t).length : Int) then 0 else 5) else 250
theorem at_ (t : List (List Int)) (ht : thin t) (hd : ∀ r ∈ t, isDig r) (i : Int) : Ev (fun k => tree_at.f k t i) (atOf t i) := by
  unfold atOf
  refine Ev.congr (f := fun k => (tree_Check.f k t).bind fun x => if x = 0 then (if i < 0 then some 5 else (if 0 < (t.length : Int) then (if i ≥ ((base t).length : Int) then some 5 else some 0) else none)) else some x) (fun k => rfl) ?_
  refine Ev.bind (Check_ t ht hd) ?_
  unfold checkOf
  by_cases h : good t
  · have := good_ne h
    simp only [if_pos h, if_true]
    by_cases h0 : i < 0
    · rw [if_neg (show ¬ (0 ≤ i ∧ i < ((base t).length : Int)) by omega)]
      simp only [if_pos h0]
      exact Ev.now _
    · simp only [if_neg h0, if_pos (show 0 < (t.length : Int) by omega)]
      by_cases h1 : i ≥ ((base t).length : Int)
      · rw [if_neg (show ¬ (0 ≤ i ∧ i < ((base t).length : Int)) by omega)]
        simp only [if_pos h1]
        exact Ev.now _
      · rw [if_pos (show (0 ≤ i ∧ i < ((base t).length : Int)) by omega)]
        simp only [if_neg h1]
        exact Ev.now _
  · simp only [if_neg h]
    exact Ev.now _
theorem quarter (i : Nat) (hi : i ≤ 4611686018427387904) : wrap64 (Int.tdiv (i : Int) 4) = ((i / 4 : Nat) : Int) := by
  rw [Int.tdiv_eq_ediv_of_nonneg (by omega)]
  unfold wrap64
  omega
theorem prove_from (ts : List (List Int)) (p0 : Int) (hl : ts.length ≤ 1000) (d : Nat) : ∀ (j i : Nat) (acc : List (List Int)), j + d = ts.length → stair (ts.drop j) i → i ≤ 4096 → acc.length + d ≤ 5000 →
    Ev (fun k => tree_Prove.l0 k (i : Int) ts (ts.length : Int) (j : Int) p0 acc) (p0, acc ++ path (ts.drop j) i, 0) := by
  induction d with
  | zero =>
    intro j i acc h _ _ _
    refine Ev.step (f := fun _ => some (p0, acc, 0)) (fun k => ?_) ?_
    · rw [tree_Prove.l0, if_neg (by omega)]
    · rw [List.drop_of_length_le (by omega), path, List.append_nil]
      exact Ev.now _
  | succ d ih =>
    intro j i acc h hs hi ha
    rw [drop_L1 ts j (by omega)] at hs ⊢
    have hr := row_ (rd_L1 ts (j : Int)) i hs.1 (by have := hs.2.1; omega)
    have hc : slices_Clone_uint32_uint32.f (part (rd_L1 ts (j : Int)) (i / 4)) = some (part (rd_L1 ts (j : Int)) (i / 4)) := by
      rw [slices_Clone_uint32_uint32.f, Option.bind_some, if_pos (by have := part_length (rd_L1 ts (j : Int)) (i / 4); simp; omega), List.nil_append]
    refine Ev.step (f := fun k => tree_Prove.l0 k ((i / 4 : Nat) : Int) ts (ts.length : Int) ((j + 1 : Nat) : Int) p0 (acc ++ [part (rd_L1 ts (j : Int)) (i / 4)])) (fun k => ?_) ?_
    · rw [tree_Prove.l0, if_pos (by omega), if_pos (by omega), if_pos (by omega), hr, Option.bind_some, hc, Option.bind_some, if_pos (by omega), quarter i (by omega), wrap_next j ts.length (by omega) (by omega)]
    · rw [path, show acc ++ part (rd_L1 ts (j : Int)) (i / 4) :: path (ts.drop (j + 1)) (i / 4) = (acc ++ [part (rd_L1 ts (j : Int)) (i / 4)]) ++ path (ts.drop (j + 1)) (i / 4) by simp]
      exact ih (j + 1) (i / 4) _ (by omega) hs.2.2 (by omega) (by simp; omega)
def below (t : List (List Int)) : List (List Int) := t.take (t.length - 1)
def proveOf (t : List (List Int)) (i : Int) : Int × List (List Int) × Int :=
  if good t then (if 0 ≤ i ∧ i < ((base t).length : Int) then (i, path (below t) i.toNat, 0) else (0, [], 5)) else (0, [], 250)
theorem good_stair {t : List (List Int)} (h : good t) (i : Nat) (hi : i < (base t).length) : stair t i := by
  have := stair_lv 7 (base t) i hi h.1.2
  rw [show lv 7 (base t) = t from h.2.symm] at this
  exact this
theorem good_length {t : List (List Int)} (h : good t) : 1 ≤ t.length ∧ t.length ≤ 7 := by
  have h1 := good_ne h
  have h2 := lv_length 7 (base t)
  rw [show lv 7 (base t) = t from h.2.symm] at h2
  omega
theorem last_in (n : Nat) (h : 1 ≤ n) (h2 : n ≤ 4611686018427387904) : wrap64 ((n : Int) - 1) = ((n - 1 : Nat) : Int) := by
  unfold wrap64
  omega
theorem Prove_ (t : List (List Int)) (ht : thin t) (hd : ∀ r ∈ t, isDig r) (i : Int) : Ev (fun k => tree_Prove.f k t i) (proveOf t i) := by
  unfold proveOf
  refine Ev.congr (f := fun k => (tree_at.f k t i).bind fun x => if x = 0 then (if 0 ≤ (wrap64 ((t.length : Int) - 1)) then (if (wrap64 ((t.length : Int) - 1)) ≤ (t.length : Int) then ((some (t.take ((wrap64 ((t.length : Int) - 1)) : Int).toNat : List (List Int))).bind fun y => (tree_Prove.l0 k i y (y.length : Int) 0 i ([] : List (List Int)))) else none) else none) else some (0, [], x)) (fun k => rfl) ?_
  refine Ev.bind (at_ t ht hd i) ?_
  unfold atOf
  by_cases h : good t
  · have hl := good_length h
    simp only [if_pos h]
    by_cases hi : 0 ≤ i ∧ i < ((base t).length : Int)
    · simp only [if_pos hi, if_true, last_in t.length hl.1 (by omega), if_pos (show (0 : Int) ≤ ((t.length - 1 : Nat) : Int) by omega), if_pos (show ((t.length - 1 : Nat) : Int) ≤ (t.length : Int) by omega), Int.toNat_natCast, Option.bind_some]
      obtain ⟨m, rfl⟩ : ∃ m : Nat, i = (m : Int) := ⟨i.toNat, by omega⟩
      have hs := stair_take (t.length - 1) t m (good_stair h m (by omega))
      have := prove_from (t.take (t.length - 1)) (m : Int) (by rw [List.length_take]; omega) (t.take (t.length - 1)).length 0 m [] (by omega) hs (by have := h.1.2; omega) (by rw [List.length_take]; simp; omega)
      rw [List.drop_zero, List.nil_append] at this
      exact this
    · simp only [if_neg hi]
      exact Ev.now _
  · simp only [if_neg h]
    exact Ev.now _
theorem take_drop_L1 (t : List (List Int)) (j : Nat) (h : j < t.length - 1) : (t.take (t.length - 1)).drop j = rd_L1 t (j : Int) :: (t.take (t.length - 1)).drop (j + 1) := by
  have e : rd_L1 t (j : Int) = rd_L1 (t.take (t.length - 1)) (j : Int) := by
    rw [rd_L1_nat t j (by omega), rd_L1_nat _ j (by rw [List.length_take]; omega), List.getElem_take]
  rw [e]
  exact drop_L1 _ j (by rw [List.length_take]; omega)
theorem ref_prove_from (t : List (List Int)) (p0 : Int) (hl : 1 ≤ t.length ∧ t.length ≤ 1000) (d : Nat) : ∀ (j i : Nat) (acc : List (List Int)), j + d = t.length - 1 → stair ((below t).drop j) i → i ≤ 4096 → acc.length + d ≤ 5000 →
    Ev (fun k => plinthref25_Prove.l0 k (i : Int) (j : Int) t p0 acc) (p0, acc ++ path ((below t).drop j) i, 0) := by
  induction d with
  | zero =>
    intro j i acc h _ _ _
    refine Ev.step (f := fun _ => some (p0, acc, 0)) (fun k => ?_) ?_
    · rw [plinthref25_Prove.l0, last_in t.length hl.1 (by omega), if_neg (by omega)]
    · rw [below, List.drop_of_length_le (by rw [List.length_take]; omega), path, List.append_nil]
      exact Ev.now _
  | succ d ih =>
    intro j i acc h hs hi ha
    unfold below at hs ⊢
    rw [take_drop_L1 t j (by omega)] at hs ⊢
    have hr := ref_row (rd_L1 t (j : Int)) i hs.1 (by have := hs.2.1; omega)
    refine Ev.step (f := fun k => plinthref25_Prove.l0 k ((i / 4 : Nat) : Int) ((j + 1 : Nat) : Int) t p0 (acc ++ [part (rd_L1 t (j : Int)) (i / 4)])) (fun k => ?_) ?_
    · rw [plinthref25_Prove.l0, last_in t.length hl.1 (by omega), if_pos (by omega), if_pos (by omega), if_pos (by omega), hr, Option.bind_some, if_pos (by omega), quarter i (by omega), wrap_next j t.length (by omega) (by omega)]
    · rw [path, show acc ++ part (rd_L1 t (j : Int)) (i / 4) :: path ((t.take (t.length - 1)).drop (j + 1)) (i / 4) = (acc ++ [part (rd_L1 t (j : Int)) (i / 4)]) ++ path ((t.take (t.length - 1)).drop (j + 1)) (i / 4) by simp]
      exact ih (j + 1) (i / 4) _ (by omega) hs.2.2 (by omega) (by simp; omega)
theorem ref_Prove (t : List (List Int)) (ht : thin t) (i : Int) : Ev (fun k => plinthref25_Prove.f k t i) (proveOf t i) := by
  unfold proveOf
  refine Ev.congr (f := fun k => (plinthref25_Check.f k t).bind fun x => if x = 0 then (if i < 0 then (plinthref25_Prove.j0 k i true t) else (if 0 < (t.length : Int) then (plinthref25_Prove.j0 k i (decide (i ≥ ((base t).length : Int))) t) else (none))) else (some (0, ([] : List (List Int)), 250))) (fun k => rfl) ?_
  refine Ev.bind (ref_Check t ht) ?_
  unfold checkOf
  by_cases h : good t
  · have hl := good_length h
    have hj : Ev (fun k => plinthref25_Prove.j0 k i true t) (0, [], 5) := Ev.step (f := fun _ => some (0, [], 5)) (fun k => by rw [plinthref25_Prove.j0, if_pos rfl]) (Ev.now _)
    simp only [if_pos h, if_true]
    by_cases h0 : i < 0
    · rw [if_neg (show ¬ (0 ≤ i ∧ i < ((base t).length : Int)) by omega)]
      simp only [if_pos h0]
      exact hj
    · simp only [if_neg h0, if_pos (show 0 < (t.length : Int) by omega)]
      by_cases h1 : i ≥ ((base t).length : Int)
      · rw [if_neg (show ¬ (0 ≤ i ∧ i < ((base t).length : Int)) by omega)]
        simp only [decide_eq_true h1]
        exact hj
      · rw [if_pos (show (0 ≤ i ∧ i < ((base t).length : Int)) by omega)]
        simp only [decide_eq_false h1]
        obtain ⟨m, rfl⟩ : ∃ m : Nat, i = (m : Int) := ⟨i.toNat, by omega⟩
        have hs := stair_take (t.length - 1) t m (good_stair h m (by omega))
        have := ref_prove_from t (m : Int) ⟨hl.1, by omega⟩ (t.length - 1) 0 m [] (by omega) hs (by have := h.1.2; omega) (by simp; omega)
        rw [List.drop_zero, List.nil_append] at this
        exact Ev.step (f := fun k => plinthref25_Prove.l0 k (m : Int) 0 t (m : Int) []) (fun k => by rw [plinthref25_Prove.j0, if_neg (by decide)]) this
  · simp only [if_neg h]
    exact Ev.now _
/-! ### which proofs hold -/
def pv : Nat → List (List Int) → Nat → Nat → Int → Int → Int
  | 0, _, _, _, _, _ => 251
  | m + 1, rs, n, i, d, root => if 1 < n then (match rs with
      | [] => 251
      | r :: rs => if r.length = min 4 (n - 4 * (i / 4)) ∧ rd r ((i % 4 : Nat) : Int) = d then pv m rs ((n + 3) / 4) (i / 4) (rowD r) root else 251)
    else if rs = [] ∧ d = root then 0 else 251
theorem pv_small {m n : Nat} (h : ¬ 1 < n) (rs : List (List Int)) (i : Nat) (d root : Int) : pv (m + 1) rs n i d root = if rs = [] ∧ d = root then 0 else 251 := by
  unfold pv
  rw [if_neg h]
theorem pv_nil {m n : Nat} (h : 1 < n) (i : Nat) (d root : Int) : pv (m + 1) [] n i d root = 251 := by
  unfold pv
  rw [if_pos h]
theorem pv_cons {m n : Nat} (h : 1 < n) (r : List Int) (rs : List (List Int)) (i : Nat) (d root : Int) : pv (m + 1) (r :: rs) n i d root = if r.length = min 4 (n - 4 * (i / 4)) ∧ rd r ((i % 4 : Nat) : Int) = d then pv m rs ((n + 3) / 4) (i / 4) (rowD r) root else 251 := by
  conv => lhs; unfold pv
  rw [if_pos h]
def slim (t : List (List Int)) : Prop := t.length ≤ 1000 ∧ ∀ r ∈ t, isDig r ∧ r.length ≤ 10000
theorem slim_thin {t : List (List Int)} (h : slim t) : thin t := ⟨by have := h.1; omega, fun r hr => by have := (h.2 r hr).2; omega⟩
theorem proved_from (m : Nat) : ∀ (rs : List (List Int)) (n i : Nat) (d root : Int), n ≤ 4 ^ m → n ≤ 4096 → i < n → slim rs → Ev (fun k => tree_Proved.l0 k rs (n : Int) (i : Int) d root) (pv (m + 1) rs n i d root) := by
  induction m with
  | zero =>
    intro rs n i d root hn _ hi hs
    refine Ev.step (f := fun _ => some (pv 1 rs n i d root)) (fun k => ?_) (Ev.now _)
    rw [tree_Proved.l0, if_neg (by omega), pv_small (by omega)]
    cases rs with
    | nil => by_cases h : d = root <;> simp [h]
    | cons r rs => simp
  | succ m ih =>
    intro rs n i d root hn hn2 hi hs
    by_cases h1 : 1 < n
    · cases rs with
      | nil => rw [pv_nil h1]; exact Ev.step (f := fun _ => some 251) (fun k => by rw [tree_Proved.l0, if_pos (by omega)]; rfl) (Ev.now _)
      | cons r rs =>
        have hr := hs.2 r (by simp)
        have e0 : tree_Proved.el (r :: rs) 0 = r := rfl
        rw [pv_cons h1]
        have el : ((r.length : Int) = if (n : Int) - ((i : Int) - (i : Int) % 4) < 4 then (n : Int) - ((i : Int) - (i : Int) % 4) else 4) ↔ r.length = min 4 (n - 4 * (i / 4)) := by
          split <;> omega
        have e4 : (i : Int) % 4 = ((i % 4 : Nat) : Int) := by omega
        have en : ((n : Int) + 3) / 4 = (((n + 3) / 4 : Nat) : Int) := by omega
        have ei : (i : Int) / 4 = ((i / 4 : Nat) : Int) := by omega
        by_cases h2 : r.length = min 4 (n - 4 * (i / 4))
        · by_cases h3 : rd r ((i % 4 : Nat) : Int) = d
          · rw [if_pos ⟨h2, h3⟩]
            refine Ev.step (f := fun k => (tree_Row.f k r).bind fun d' => tree_Proved.l0 k rs (((n + 3) / 4 : Nat) : Int) ((i / 4 : Nat) : Int) d' root) (fun k => ?_) ?_
            · rw [tree_Proved.l0, if_pos (by omega), if_neg (by simp), e0, if_pos (el.2 h2), e4, if_pos h3, en, ei]
              rfl
            · refine Ev.bind (Row_ r hr.1 (by have := hr.2; omega)) ?_
              exact ih rs _ _ _ _ (by rw [pow4] at hn; omega) (by omega) (by omega) ⟨by have := hs.1; simp at this; omega, fun x hx => hs.2 x (by simp [hx])⟩
          · rw [if_neg (fun h => h3 h.2)]
            refine Ev.step (f := fun _ => some 251) (fun k => ?_) (Ev.now _)
            rw [tree_Proved.l0, if_pos (by omega), if_neg (by simp), e0, if_pos (el.2 h2), e4, if_neg h3]
        · rw [if_neg (fun h => h2 h.1)]
          refine Ev.step (f := fun _ => some 251) (fun k => ?_) (Ev.now _)
          rw [tree_Proved.l0, if_pos (by omega), if_neg (by simp), e0, if_neg (fun h => h2 (el.1 h))]
    · rw [pv_small h1]
      refine Ev.step (f := fun _ => some (if rs = [] ∧ d = root then 0 else 251)) (fun k => ?_) (Ev.now _)
      rw [tree_Proved.l0, if_neg (by omega)]
      cases rs with
      | nil => by_cases h : d = root <;> simp [h]
      | cons r rs => simp
def provedOf (root n d i : Int) (rs : List (List Int)) : Int := if (1 ≤ n ∧ n ≤ 4096) ∧ 0 ≤ i ∧ i < n then pv 7 rs n.toNat i.toNat d root else 251
theorem Proved_ (root n d i : Int) (rs : List (List Int)) (hs : slim rs) : Ev (fun k => tree_Proved.f k root n d i rs) (provedOf root n d i rs) := by
  unfold provedOf
  by_cases h : (1 ≤ n ∧ n ≤ 4096) ∧ 0 ≤ i ∧ i < n
  · rw [if_pos h]
    obtain ⟨a, rfl⟩ : ∃ a : Nat, n = (a : Int) := ⟨n.toNat, by omega⟩
    obtain ⟨b, rfl⟩ : ∃ b : Nat, i = (b : Int) := ⟨i.toNat, by omega⟩
    refine Ev.congr (fun k => ?_) (proved_from 6 rs a b d root (by omega) (by omega) (by omega) hs)
    rw [tree_Proved.f, if_neg (by omega), if_neg (by omega), if_neg (by omega), if_neg (by omega)]
  · rw [if_neg h]
    refine Ev.congr (f := fun _ => some 251) (fun k => ?_) (Ev.now _)
    rw [tree_Proved.f]
    by_cases h1 : n < 1
    · rw [if_pos h1]
    · by_cases h2 : 4096 < n
      · rw [if_neg h1, if_pos h2]
      · by_cases h3 : i < 0
        · rw [if_neg h1, if_neg h2, if_pos h3]
        · rw [if_neg h1, if_neg h2, if_neg h3, if_pos (by omega)]
theorem row_begin (i : Nat) (hi : i ≤ 4096) : wrap64 (wrap64 (Int.tdiv (i : Int) 4) * 4) = ((4 * (i / 4) : Nat) : Int) := by
  rw [quarter i (by omega)]
  unfold wrap64
  omega
theorem row_left (n i : Nat) (hn : n ≤ 4096) (_ : i < n) : wrap64 ((n : Int) - ((4 * (i / 4) : Nat) : Int)) = ((n - 4 * (i / 4) : Nat) : Int) := by
  unfold wrap64
  omega
theorem row_place (i : Nat) (_ : i ≤ 4096) : wrap64 ((i : Int) - ((4 * (i / 4) : Nat) : Int)) = ((i % 4 : Nat) : Int) := by
  unfold wrap64
  omega
theorem row_more (n : Nat) (hn : n ≤ 4096) : wrap64 (Int.tdiv (wrap64 (wrap64 ((n : Int) + 4) - 1)) 4) = (((n + 3) / 4 : Nat) : Int) := by
  rw [show wrap64 (wrap64 ((n : Int) + 4) - 1) = ((n + 3 : Nat) : Int) by unfold wrap64; omega]
  exact quarter (n + 3) (by omega)
theorem row_size (n : Nat) : mn 4 (n : Int) = ((min 4 n : Nat) : Int) := mn_nat 4 _
theorem ref_proved_from (rs : List (List Int)) (p0 : Int) (hs : slim rs) (m : Nat) : ∀ (j n i : Nat) (d root : Int), j ≤ rs.length → n ≤ 4 ^ m → n ≤ 4096 → i < n → Ev (fun k => plinthref25_Proved.l0 k root (n : Int) d (i : Int) (j : Int) p0 rs) (pv (m + 1) (rs.drop j) n i d root) := by
  have hl := hs.1
  induction m with
  | zero =>
    intro j n i d root hj hn _ hi
    refine Ev.step (f := fun _ => some (pv 1 (rs.drop j) n i d root)) (fun k => ?_) (Ev.now _)
    rw [plinthref25_Proved.l0, if_neg (by omega), pv_small (by omega)]
    by_cases h : j = rs.length
    · subst h
      rw [List.drop_of_length_le (Nat.le_refl _), if_pos rfl]
      by_cases h : d = root <;> simp [h]
    · rw [if_neg (by omega), drop_L1 rs j (by omega)]
      simp
  | succ m ih =>
    intro j n i d root hj hn hn2 hi
    by_cases h1 : 1 < n
    · by_cases h : j = rs.length
      · subst h
        rw [List.drop_of_length_le (Nat.le_refl _), pv_nil h1]
        exact Ev.step (f := fun _ => some 251) (fun k => by rw [plinthref25_Proved.l0, if_pos (by omega), if_pos (by omega)]) (Ev.now _)
      · rw [drop_L1 rs j (by omega)]
        have hr := hs.2 (rd_L1 rs (j : Int)) (by rw [rd_L1_nat rs j (by omega)]; exact List.getElem_mem _)
        obtain ⟨r, hrr⟩ : ∃ r, rd_L1 rs (j : Int) = r := ⟨_, rfl⟩
        rw [hrr] at hr ⊢
        rw [pv_cons h1]
        by_cases h2 : r.length = min 4 (n - 4 * (i / 4))
        · by_cases h3 : rd r ((i % 4 : Nat) : Int) = d
          · rw [if_pos ⟨h2, h3⟩]
            refine Ev.step (f := fun k => (plinthref25_Row.f k r).bind fun d' => plinthref25_Proved.l0 k root (((n + 3) / 4 : Nat) : Int) d' ((i / 4 : Nat) : Int) ((j + 1 : Nat) : Int) p0 rs) (fun k => ?_) ?_
            · rw [plinthref25_Proved.l0, if_pos (by omega), if_neg (by omega), if_pos (by omega), if_pos (by omega), hrr, row_begin i (by omega), row_left n i hn2 hi, row_place i (by omega), row_more n hn2, row_size, if_pos (by omega), if_pos (by omega), if_pos (by omega), if_pos h3, quarter i (by omega), wrap_next j rs.length (by omega) (by omega)]
            · refine Ev.bind (ref_Row r (by have := hr.2; omega)) ?_
              exact ih (j + 1) _ _ _ _ (by omega) (by rw [pow4] at hn; omega) (by omega) (by omega)
          · rw [if_neg (fun h => h3 h.2)]
            refine Ev.step (f := fun _ => some 251) (fun k => ?_) (Ev.now _)
            rw [plinthref25_Proved.l0, if_pos (by omega), if_neg (by omega), if_pos (by omega), if_pos (by omega), hrr, row_begin i (by omega), row_left n i hn2 hi, row_place i (by omega), row_size, if_pos (by omega), if_pos (by omega), if_pos (by omega), if_neg h3]
        · rw [if_neg (fun h => h2 h.1)]
          refine Ev.step (f := fun _ => some 251) (fun k => ?_) (Ev.now _)
          rw [plinthref25_Proved.l0, if_pos (by omega), if_neg (by omega), if_pos (by omega), if_pos (by omega), hrr, row_begin i (by omega), row_left n i hn2 hi, row_size, if_neg (by omega)]
    · rw [pv_small h1]
      refine Ev.step (f := fun _ => some (if rs.drop j = [] ∧ d = root then 0 else 251)) (fun k => ?_) (Ev.now _)
      rw [plinthref25_Proved.l0, if_neg (by omega)]
      by_cases h : j = rs.length
      · subst h
        rw [List.drop_of_length_le (Nat.le_refl _), if_pos rfl]
        by_cases h : d = root <;> simp [h]
      · rw [if_neg (by omega), drop_L1 rs j (by omega)]
        simp
theorem ref_Proved (root n d i : Int) (rs : List (List Int)) (hs : slim rs) : Ev (fun k => plinthref25_Proved.f k root n d i rs) (provedOf root n d i rs) := by
  unfold provedOf
  have hj : Ev (fun k => plinthref25_Proved.j0 k root n d true i rs) 251 := Ev.step (f := fun _ => some 251) (fun k => by rw [plinthref25_Proved.j0, if_pos rfl]) (Ev.now _)
  by_cases h : (1 ≤ n ∧ n ≤ 4096) ∧ 0 ≤ i ∧ i < n
  · rw [if_pos h]
    obtain ⟨a, rfl⟩ : ∃ a : Nat, n = (a : Int) := ⟨n.toNat, by omega⟩
    obtain ⟨b, rfl⟩ : ∃ b : Nat, i = (b : Int) := ⟨i.toNat, by omega⟩
    refine Ev.congr (f := fun k => plinthref25_Proved.j0 k root (a : Int) d false (b : Int) rs) (fun k => ?_) ?_
    · rw [plinthref25_Proved.f, if_neg (by omega), if_neg (by omega), if_neg (by omega), decide_eq_false (by omega)]
    · exact Ev.step (f := fun k => plinthref25_Proved.l0 k root (a : Int) d (b : Int) ((0 : Nat) : Int) (b : Int) rs) (fun k => by rw [plinthref25_Proved.j0, if_neg (by decide)]; rfl) (ref_proved_from rs (b : Int) hs 6 0 a b d root (by omega) (by omega) (by omega) (by omega))
  · rw [if_neg h]
    refine Ev.congr (fun k => ?_) hj
    rw [plinthref25_Proved.f]
    by_cases h1 : n < 1
    · rw [if_pos h1]
    · by_cases h2 : n > 4096
      · rw [if_neg h1, if_pos h2]
      · by_cases h3 : i < 0
        · rw [if_neg h1, if_neg h2, if_pos h3]
        · rw [if_neg h1, if_neg h2, if_neg h3, decide_eq_true (by omega)]
/-! ### what is proved holds -/
theorem rd_up (l : List Int) (j : Nat) (h : j < (l.length + 3) / 4) : rd (up l) (j : Int) = rowD (part l j) := by
  rw [rd_nat (up l) j (by rw [up_length]; exact h)]
  simp [up]
theorem part_len (l : List Int) (j : Nat) (h : 4 * j < l.length) : (part l j).length = min 4 (l.length - 4 * j) := by
  rw [part, List.length_drop, List.length_take]
  omega
theorem rd_part (l : List Int) (i : Nat) (h : i < l.length) : rd (part l (i / 4)) ((i % 4 : Nat) : Int) = rd l (i : Int) := by
  rw [rd_nat _ _ (by rw [part_len l _ (by omega)]; omega), rd_nat l i h]
  simp only [part, List.getElem_drop, List.getElem_take]
  congr 1
  omega
def top (t : List (List Int)) : Int := rd (t.getLastD []) 0
theorem lv_last (n : Nat) (l : List Int) (h : 1 < l.length) : (lv (n + 2) l).dropLast = l :: (lv (n + 1) (up l)).dropLast ∧ top (lv (n + 2) l) = top (lv (n + 1) (up l)) := by
  rw [lv, if_pos h, lv_succ n (up l)]
  exact ⟨rfl, rfl⟩
theorem pv_top (m : Nat) : ∀ (l : List Int) (i : Nat) (root : Int), i < l.length → l.length ≤ 4 ^ m → pv (m + 1) (path (lv (m + 1) l).dropLast i) l.length i (rd l (i : Int)) root = if root = top (lv (m + 1) l) then 0 else 251 := by
  induction m with
  | zero =>
    intro l i root hi hl
    obtain rfl : i = 0 := by omega
    have e : lv 1 l = [l] := by rw [lv, if_neg (by omega)]
    rw [pv_small (by omega), e, show path [l].dropLast 0 = [] from rfl, show top [l] = rd l ((0 : Nat) : Int) from rfl]
    by_cases h : root = rd l ((0 : Nat) : Int)
    · rw [if_pos ⟨rfl, h.symm⟩, if_pos h]
    · rw [if_neg (fun h' => h h'.2.symm), if_neg h]
  | succ m ih =>
    intro l i root hi hl
    by_cases h1 : 1 < l.length
    · have h2 := lv_last m l h1
      rw [h2.1, h2.2, path, pv_cons h1]
      rw [if_pos ⟨part_len l (i / 4) (by omega), rd_part l i hi⟩, ← rd_up l (i / 4) (by omega), ← up_length l]
      exact ih (up l) (i / 4) root (by rw [up_length]; omega) (up_small hl)
    · obtain rfl : i = 0 := by omega
      have e : lv (m + 2) l = [l] := by rw [lv, if_neg (by omega)]
      rw [pv_small (by omega), e, show path [l].dropLast 0 = [] from rfl, show top [l] = rd l ((0 : Nat) : Int) from rfl]
      by_cases h : root = rd l ((0 : Nat) : Int)
      · rw [if_pos ⟨rfl, h.symm⟩, if_pos h]
      · rw [if_neg (fun h' => h h'.2.symm), if_neg h]
theorem pv_other (m : Nat) (l : List Int) (i : Nat) (d : Int) (hi : i < l.length) (hd : d ≠ rd l (i : Int)) : pv (m + 1) (path (lv (m + 1) l).dropLast i) l.length i d (top (lv (m + 1) l)) = 251 := by
  by_cases h1 : 1 < l.length
  · cases m with
    | zero =>
      rw [lv, if_pos h1]
      exact pv_nil h1 _ _ _
    | succ m =>
      rw [(lv_last m l h1).1, path, pv_cons h1]
      rw [if_neg (fun h => hd (h.2.symm.trans (rd_part l i hi)))]
  · obtain rfl : i = 0 := by omega
    have e : lv (m + 1) l = [l] := by rw [lv, if_neg (by omega)]
    rw [pv_small (by omega), e, show path [l].dropLast 0 = [] from rfl, show top [l] = rd l ((0 : Nat) : Int) from rfl, if_neg (fun h => hd h.2)]
theorem below_last (t : List (List Int)) : below t = t.dropLast := by rw [below, List.dropLast_eq_take]
theorem base_tree (l : List Int) : base (tree l) = l := rfl
theorem good_tree {l : List Int} (h : 1 ≤ l.length ∧ l.length ≤ 4096) : good (tree l) := ⟨h, rfl⟩
theorem tree_slim {l : List Int} (hd : isDig l) (h : l.length ≤ 4096) : slim (tree l) := by
  refine ⟨by have := lv_length 7 l; unfold tree; omega, ?_⟩
  have : ∀ (n : Nat) (l : List Int), isDig l → l.length ≤ 4096 → ∀ r ∈ lv n l, isDig r ∧ r.length ≤ 10000 := by
    intro n
    induction n with
    | zero => intro l _ _ r hr; simp [lv] at hr
    | succ n ih =>
      intro l hd hl r hr
      rw [lv, List.mem_cons] at hr
      rcases hr with rfl | hr
      · exact ⟨hd, by omega⟩
      · split at hr
        · exact ih (up l) (up_dig l) (by rw [up_length]; omega) r hr
        · simp at hr
  exact this 7 l hd h
theorem path_slim (t : List (List Int)) (ht : t.length ≤ 1000) (hd : ∀ r ∈ t, isDig r) (i : Nat) : slim (path t i) := by
  have : ∀ (t : List (List Int)) (i : Nat), (∀ r ∈ t, isDig r) → (path t i).length = t.length ∧ ∀ r ∈ path t i, isDig r ∧ r.length ≤ 10000 := by
    intro t
    induction t with
    | nil => intro i _; exact ⟨rfl, fun r hr => by simp [path] at hr⟩
    | cons l ls ih =>
      intro i hd
      have := ih (i / 4) (fun r hr => hd r (by simp [hr]))
      refine ⟨by rw [path, List.length_cons, this.1, List.length_cons], fun r hr => ?_⟩
      rw [path, List.mem_cons] at hr
      rcases hr with rfl | hr
      · exact ⟨part_dig (hd l (by simp)) _, by have := part_length l (i / 4); omega⟩
      · exact this.2 r hr
  have h := this t i hd
  exact ⟨by rw [h.1]; exact ht, h.2⟩
theorem last_rows (n : Nat) : ∀ l : List Int, 1 ≤ l.length → 0 < ((lv (n + 1) l).getLastD []).length := by
  induction n with
  | zero =>
    intro l h
    rw [lv]
    split
    · rw [lv]; simp; omega
    · simp; omega
  | succ n ih =>
    intro l h
    rw [lv]
    split
    · have := ih (up l) (by rw [up_length]; omega)
      rw [lv_succ n (up l)] at this ⊢
      simpa using this
    · simp; omega
/-! ### awake -/
theorem awake_from (l : List Int) (hd : isDig l) (h5 : l.length = 5) (h1 : rd l 4 = 1) : Ev (fun k => plinthlaw25_awake.j0 k false (tree l)) true := by
  have hl : 1 ≤ l.length ∧ l.length ≤ 4096 := by omega
  have hs := tree_slim hd hl.2
  have hu : (up l).length = 2 := by rw [up_length]; omega
  have hu2 : (up (up l)).length = 1 := by rw [up_length]; omega
  have e : tree l = [l, up l, up (up l)] := by
    rw [tree, lv, if_pos (by omega), lv, if_pos (by omega), lv, if_neg (by omega)]
  have hp := Prove_ (tree l) (slim_thin hs) (fun r hr => (hs.2 r hr).1) 4
  rw [proveOf, if_pos (good_tree hl), base_tree, if_pos (by omega)] at hp
  refine Ev.step (f := fun k => (tree_Prove.f k (tree l) 4).bind fun bt258 => (if bt258.2.2 = 0 then (if (bt258.2.1.length : Int) = 2 then (if 2 < ((tree l).length : Int) then (if 0 < ((rd_L1 (tree l) 2).length : Int) then ((tree_Proved.f k (rd (rd_L1 (tree l) 2) 0) 5 1 bt258.1 bt258.2.1).bind fun t266 => (some (t266 == 0))) else (none)) else (none)) else (some false)) else (some false))) (fun k => ?_) ?_
  · rw [plinthlaw25_awake.j0, if_neg (by decide)]
  · refine Ev.bind hp ?_
    have hb : below (tree l) = [l, up l] := by rw [below_last, e]; rfl
    have h2 : rd_L1 (tree l) 2 = up (up l) := by rw [e]; rfl
    have hps := path_slim (below (tree l)) (by rw [hb]; simp) (fun r hr => by
      rw [hb] at hr
      simp only [List.mem_cons, List.not_mem_nil, or_false] at hr
      rcases hr with rfl | rfl
      · exact hd
      · exact up_dig _) 4
    have hq := Proved_ (rd (up (up l)) 0) 5 1 4 (path (below (tree l)) 4) hps
    have hv := pv_top 6 l 4 (top (tree l)) (by omega) (by omega)
    rw [if_pos (show top (tree l) = top (lv (6 + 1) l) from rfl), show ((4 : Nat) : Int) = 4 from rfl, h1, h5] at hv
    have ht : top (tree l) = rd (up (up l)) 0 := by rw [e]; rfl
    rw [ht] at hv
    rw [provedOf, if_pos (by decide), below_last, show pv 7 (path (tree l).dropLast 4) (5 : Int).toNat (4 : Int).toNat 1 (rd (up (up l)) 0) = 0 from hv] at hq
    have e1 : ((path (tree l).dropLast (4 : Int).toNat).length : Int) = 2 := by rw [← below_last, hb]; rfl
    have e2 : 2 < ((tree l).length : Int) := by rw [e]; simp
    simp only [e2, h2, hu2, if_true, if_pos (show (0 : Int) < ((1 : Nat) : Int) by decide), below_last, e1]
    exact Ev.bind (f := fun _ t => some (t == 0)) hq (Ev.now _)
theorem awake_ : Ev (fun k => plinthlaw25_awake.f k) true := by
  have hd : isDig [5, 4, 3, 2, 1] := by intro x hx; simp at hx; omega
  have hm := Make_ [5, 4, 3, 2, 1] (fun _ => hd)
  rw [makeOf, if_pos (by decide)] at hm
  have ha := awake_from [5, 4, 3, 2, 1] hd rfl rfl
  obtain ⟨l, hl⟩ : ∃ l : List Int, l = [5, 4, 3, 2, 1] := ⟨_, rfl⟩
  have h5 : l.length = 5 := by rw [hl]; rfl
  have e : tree l = [l, up l, up (up l)] := by
    rw [tree, lv, if_pos (by omega), lv, if_pos (by rw [up_length]; omega), lv, if_neg (by rw [up_length, up_length]; omega)]
  unfold plinthlaw25_awake.f
  rw [← hl] at hm ha ⊢
  refine Ev.bind hm ?_
  have e1 : ((tree l).length : Int) = 3 := by rw [e]; rfl
  have e2 : ((rd_L1 (tree l) 1).length : Int) = 2 := by rw [e, show rd_L1 [l, up l, up (up l)] 1 = up l from rfl, up_length, h5]; rfl
  simp only [e1, e2, if_true, if_pos (show (1 : Int) < 3 by decide)]
  exact ha
end Go.Proofs.Ytbmmddngadnofaa.Tree

/- Trees with not more than is looked at; few digests; the digests of pages. -/
namespace Go.Proofs.Ytbmmddngadnofaa.Tree
open Go.RowKit Go.Proofs.Ytbmmddngadnofaa.F Go.Proofs.Ytbmmddngadnofaa.Bytes Go.Proofs.Ytbmmddngadnofaa.Octets Go.Proofs.YtbmmddngadnofaaW.PrintWords Go.Proofs.YtbmmddngadnofaaW.PrintLast Go.Proofs.YtbmmddngadnofaaW.PrintMore

def cut12 (l : List (List Int)) : List (List Int) := if 12 < l.length then l.take 12 else l
def cutOf (l : List (List Int)) : List (List Int) := if ∀ r ∈ cut12 l, r.length ≤ 4097 then cut12 l else []
theorem cut12_length (l : List (List Int)) : (cut12 l).length ≤ 12 := by
  unfold cut12
  split
  · rw [List.length_take]; omega
  · omega
theorem cut12_mem {l : List (List Int)} {r : List Int} (h : r ∈ cut12 l) : r ∈ l := by
  unfold cut12 at h
  split at h
  · exact List.mem_of_mem_take h
  · exact h
theorem cut_from (l : List (List Int)) (d : Nat) : ∀ i : Nat, i + d = l.length → Ev (fun k => plinthlaw25_cut.l0 k l (i : Int)) (if ∀ r ∈ l.drop i, r.length ≤ 4097 then l else []) := by
  induction d with
  | zero =>
    intro i h
    refine Ev.step (f := fun _ => some l) (fun k => ?_) ?_
    · rw [plinthlaw25_cut.l0, if_neg (by omega)]
    · rw [List.drop_of_length_le (by omega), if_pos (by simp)]
      exact Ev.now _
  | succ d ih =>
    intro i h
    have e := drop_L1 l i (by omega)
    by_cases h1 : (rd_L1 l (i : Int)).length ≤ 4097
    · refine Ev.step (f := fun k => plinthlaw25_cut.l0 k l ((i + 1 : Nat) : Int)) (fun k => ?_) ?_
      · rw [plinthlaw25_cut.l0, if_pos (by omega), if_neg (show ¬ 4097 < ((plinthlaw25_cut.rd l (i : Int)).length : Int) from fun z => absurd (show 4097 < ((rd_L1 l (i : Int)).length : Int) from z) (by omega))]
        rfl
      · have := ih (i + 1) (by omega)
        rw [e]
        simp only [List.mem_cons, forall_eq_or_imp, h1, true_and]
        exact this
    · refine Ev.step (f := fun _ => some []) (fun k => ?_) ?_
      · rw [plinthlaw25_cut.l0, if_pos (by omega), if_pos (show 4097 < ((plinthlaw25_cut.rd l (i : Int)).length : Int) from (show 4097 < ((rd_L1 l (i : Int)).length : Int) by omega))]
      · rw [e, if_neg (fun z => h1 (z _ (by simp)))]
        exact Ev.now _
theorem cut_ (l : List (List Int)) : Ev (fun k => plinthlaw25_cut.f k l) (cutOf l) := by
  have := cut_from (cut12 l) (cut12 l).length 0 (by omega)
  rw [List.drop_zero] at this
  refine Ev.congr (fun k => ?_) this
  unfold plinthlaw25_cut.f cut12
  split <;> rfl
theorem cut_slim {l : List (List Int)} (h : ∀ r ∈ l, ∀ x ∈ r, (Lit.int .u32 x).wf = true) : slim (cutOf l) := by
  unfold cutOf
  by_cases h1 : ∀ r ∈ cut12 l, r.length ≤ 4097
  · rw [if_pos h1]
    exact ⟨by have := cut12_length l; omega, fun r hr => ⟨isDig_of (h r (cut12_mem hr)), by have := h1 r hr; omega⟩⟩
  · rw [if_neg h1]
    exact ⟨by simp, fun r hr => by cases hr⟩
theorem cut_of_slim {l : List (List Int)} (h : slim l) : slim (cutOf l) := by
  unfold cutOf
  by_cases h1 : ∀ r ∈ cut12 l, r.length ≤ 4097
  · rw [if_pos h1]
    exact ⟨by have := cut12_length l; omega, fun r hr => h.2 r (cut12_mem hr)⟩
  · rw [if_neg h1]
    exact ⟨by simp, fun r hr => by cases hr⟩
def fewOf (l : List Int) : List Int := if 300 < l.length ∧ l.length ≤ 4096 then l.take 300 else l
theorem few_ (l : List Int) : plinthlaw25_few.f l = some (fewOf l) := by
  unfold plinthlaw25_few.f fewOf
  by_cases h1 : 300 < l.length
  · rw [if_pos (by omega)]
    by_cases h2 : l.length ≤ 4096
    · rw [if_pos (by omega), if_pos (by omega), if_pos ⟨h1, h2⟩]
    · rw [if_neg (by omega), if_neg (fun h => h2 h.2)]
  · rw [if_neg (by omega), if_neg (fun h => h1 h.1)]
theorem few_dig {l : List Int} (h : isDig l) : isDig (fewOf l) := by
  unfold fewOf
  split
  · exact isDig_take _ h
  · exact h
theorem few_le (l : List Int) : (fewOf l).length ≤ l.length := by
  unfold fewOf
  split
  · rw [List.length_take]; omega
  · omega
def rootOf (t : List (List Int)) : Int × Int := if good t then (top t, 0) else (0, 250)
theorem good_top {t : List (List Int)} (h : good t) : 0 < (rd_L1 t ((t.length - 1 : Nat) : Int)).length ∧ rd (rd_L1 t ((t.length - 1 : Nat) : Int)) 0 = top t := by
  have hn := good_ne h
  have e : rd_L1 t ((t.length - 1 : Nat) : Int) = t.getLastD [] := by
    rw [rd_L1_nat t (t.length - 1) (by omega), List.getLastD_eq_getLast?, List.getLast?_eq_getElem?, List.getElem?_eq_getElem (by omega)]
    rfl
  rw [e]
  refine ⟨?_, rfl⟩
  have := last_rows 6 (base t) h.1.1
  rwa [show lv (6 + 1) (base t) = t from h.2.symm] at this
theorem Root_ (t : List (List Int)) (ht : thin t) (hd : ∀ r ∈ t, isDig r) : Ev (fun k => tree_Root.f k t) (rootOf t) := by
  unfold tree_Root.f rootOf
  refine Ev.bind (Check_ t ht hd) ?_
  unfold checkOf
  by_cases h : good t
  · have hl := good_length h
    have hg := good_top h
    simp only [if_pos h, if_true, last_in t.length hl.1 (by omega), if_pos (show (0 : Int) ≤ ((t.length - 1 : Nat) : Int) by omega), if_pos (show ((t.length - 1 : Nat) : Int) < (t.length : Int) by omega), if_pos (show 0 < ((rd_L1 t ((t.length - 1 : Nat) : Int)).length : Int) by have := hg.1; omega), hg.2]
    exact Ev.now _
  · simp only [if_neg h]
    exact Ev.now _
end Go.Proofs.Ytbmmddngadnofaa.Tree
