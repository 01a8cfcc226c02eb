import Derived.OpenShut
import Derived.Laws.BytesArg
import Derived.Test.YtcajcbeioilgmaaFx4
import Derived.Test.YtcajcbeioilgmaaFx9
import Derived.Test.YtcajcbeioilgmaaFx3
import Derived.Test.YtcajcbeioilgmaaFx5
import Derived.Test.YtcajcbeioilgmaaFx6
import Derived.Test.YtcajcbeioilgmaaFx10
import Derived.Test.YtcajcbeioilgmaaFx11
import Derived.Laws.BitsAllLaws
import Derived.Laws.BitsLemmas
import Derived.Test.YtcajcbeioilgmaaWMore
import Derived.Test.YtcajcbeioilgmaaWWords
import Derived.Test.YtcajcbeioilgmaaFx1
import Derived.Test.YtcajcbeioilgmaaFx13
import Derived.Test.YtcajcbeioilgmaaFx14
import Derived.Test.YtcajcbeioilgmaaFx15
import Derived.Test.YtcajcbeioilgmaaFx2
import Derived.Test.YtcajcbeioilgmaaFx20
import Derived.Test.YtcajcbeioilgmaaFx21
import Derived.Test.YtcajcbeioilgmaaFx8
import Derived.Test.YtcajcbeioilgmaaFx22
import Derived.Test.YtcajcbeioilgmaaFx7
import Derived.Test.YtcajcbeioilgmaaFx12
/- Bytes as a text's bytes: two rows of bytes are alike just where their texts are. -/
namespace Go.Proofs.Ytcajcbeioilgmaa.Bytes
open Go.RowKit

theorem loop_data (b : ByteArray) (d : Nat) : ∀ (i : Nat) (r : List UInt8), i + d = b.size → ByteArray.toList.loop b i r = r.reverse ++ b.data.toList.drop i := by
  induction d with
  | zero =>
    intro i r h
    rw [ByteArray.toList.loop, if_neg (by omega), List.drop_of_length_le (by simp; omega), List.append_nil]
  | succ d ih =>
    intro i r h
    have hi : i < b.data.toList.length := by simp; omega
    rw [ByteArray.toList.loop, if_pos (by omega), ih (i + 1) _ (by omega), List.drop_eq_getElem_cons hi]
    have hg : b.get! i = b.data.toList[i] := by
      have hs : i < b.data.size := by simpa using hi
      show b.data[i]! = b.data.toList[i]
      rw [getElem!_pos b.data i hs]
      rfl
    simp [hg]
theorem toList_data (b : ByteArray) : b.toList = b.data.toList := by
  unfold ByteArray.toList
  rw [loop_data b b.size 0 [] (by omega)]
  simp
def isByte (l : List Int) : Prop := ∀ x ∈ l, 0 ≤ x ∧ x ≤ 255
theorem isByte_of {l : List Int} (h : ∀ x ∈ l, (Lit.int .u8 x).wf = true) : isByte l := fun x hx => bounds_u8 (h x hx)
theorem text_iff {a b : List Int} (ha : isByte a) (hb : isByte b) : (strOfNums a).toList = (strOfNums b).toList ↔ a = b := by
  constructor
  · intro h
    rw [toList_data, toList_data] at h
    simp only [strOfNums] at h
    have inj : ∀ (a b : List Int), isByte a → isByte b → a.map (fun n => UInt8.ofNat n.toNat) = b.map (fun n => UInt8.ofNat n.toNat) → a = b := by
      intro a
      induction a with
      | nil => intro b _ _ h; cases b <;> simp_all
      | cons x a ih =>
        intro b ha hb h
        cases b with
        | nil => simp at h
        | cons y b =>
          simp only [List.map_cons, List.cons.injEq] at h
          have hx := ha x (by simp)
          have hy := hb y (by simp)
          have h1 := congrArg UInt8.toNat h.1
          rw [UInt8.toNat_ofNat', UInt8.toNat_ofNat'] at h1
          have : x = y := by omega
          rw [this, ih b (fun z hz => ha z (by simp [hz])) (fun z hz => hb z (by simp [hz])) h.2]
    exact inj a b ha hb h
  · intro h
    rw [h]
theorem isByte_append {a b : List Int} (ha : isByte a) (hb : isByte b) : isByte (a ++ b) := by
  intro x hx
  rcases List.mem_append.1 hx with h | h
  · exact ha x h
  · exact hb x h
theorem isByte_take {a : List Int} (n : Nat) (ha : isByte a) : isByte (a.take n) := fun x hx => ha x (List.mem_of_mem_take hx)
theorem isByte_drop {a : List Int} (n : Nat) (ha : isByte a) : isByte (a.drop n) := fun x hx => ha x (List.mem_of_mem_drop hx)
theorem isByte_nil : isByte [] := fun x hx => by cases hx
end Go.Proofs.Ytcajcbeioilgmaa.Bytes

/- The sums (CRC-32C), as 32 bits: one bit, n bits, a byte, bytes; linear, and told again by the printed functions. -/
namespace Go.Proofs.Ytcajcbeioilgmaa.Crc
open Go.RowKit Go.Proofs.Ytcajcbeioilgmaa.F Go.Proofs.YtcajcbeioilgmaaW.PrintWords Go.Proofs.YtcajcbeioilgmaaW.PrintLast Go.Proofs.YtcajcbeioilgmaaW.PrintMore

def poly : BitVec 32 := 2197175160#32
def step (s : BitVec 32) : BitVec 32 := (s >>> 1) ^^^ (if s.getLsbD 0 then poly else 0#32)
def steps : Nat → BitVec 32 → BitVec 32
  | 0, s => s
  | n + 1, s => steps n (step s)
theorem step_xor (a b : BitVec 32) : step (a ^^^ b) = step a ^^^ step b := by
  unfold step
  rw [BitVec.ushiftRight_xor_distrib, BitVec.getLsbD_xor]
  cases a.getLsbD 0 <;> cases b.getLsbD 0
  · simp
  · simp [BitVec.xor_assoc]
  · simp only [Bool.xor_false, if_true, Bool.false_eq_true, if_false, BitVec.xor_zero]
    rw [BitVec.xor_assoc, BitVec.xor_assoc, BitVec.xor_comm poly]
  · simp only [Bool.xor_self, if_true, Bool.false_eq_true, if_false, BitVec.xor_zero]
    rw [BitVec.xor_assoc, ← BitVec.xor_assoc poly, BitVec.xor_comm poly, BitVec.xor_assoc, BitVec.xor_self, BitVec.xor_zero]
theorem steps_xor (n : Nat) : ∀ a b : BitVec 32, steps n (a ^^^ b) = steps n a ^^^ steps n b := by
  induction n with
  | zero => intro a b; rfl
  | succ n ih => intro a b; rw [steps, steps, steps, step_xor, ih]
theorem steps_add (m n : Nat) : ∀ s, steps (m + n) s = steps n (steps m s) := by
  induction m with
  | zero => intro s; rw [Nat.zero_add]; rfl
  | succ m ih => intro s; rw [Nat.succ_add, steps, ih, steps]
theorem step_even {s : BitVec 32} (h : s.getLsbD 0 = false) : step s = s >>> 1 := by
  unfold step
  rw [h]
  simp
theorem steps_shift (n : Nat) : ∀ s : BitVec 32, (∀ i, i < n → s.getLsbD i = false) → steps n s = s >>> n := by
  induction n with
  | zero => intro s _; simp [steps]
  | succ n ih =>
    intro s h
    rw [steps, step_even (h 0 (by omega)), ih]
    · rw [← BitVec.shiftRight_add, Nat.add_comm]
    · intro i hi
      rw [BitVec.getLsbD_ushiftRight]
      exact h _ (by omega)
/-- A sum's low bits, and the others. -/
theorem steps_low (n : Nat) (s m : BitVec 32) (hm : ∀ i, i < 32 → m.getLsbD i = decide (i < n)) : (s >>> n) ^^^ steps n (s &&& m) = steps n s := by
  have h1 : s = (s &&& ~~~m) ^^^ (s &&& m) := by
    ext i hi
    have := hm i hi
    simp only [BitVec.getElem_xor, BitVec.getElem_and, BitVec.getElem_not]
    cases s[i] <;> cases m[i] <;> rfl
  have h2 : steps n (s &&& ~~~m) = s >>> n := by
    rw [steps_shift n (s &&& ~~~m)]
    · ext i hi
      simp only [BitVec.getElem_ushiftRight, BitVec.getLsbD_and, BitVec.getLsbD_not]
      by_cases h : n + i < 32
      · rw [hm _ h]
        simp [h]
      · rw [BitVec.getLsbD_of_ge s _ (by omega)]
        simp
    · intro i hi
      rw [BitVec.getLsbD_and, BitVec.getLsbD_not]
      by_cases h : i < 32
      · rw [hm _ h]
        simp [hi]
      · simp [h]
  have h3 := steps_xor n (s &&& ~~~m) (s &&& m)
  rw [← h1, h2] at h3
  exact h3.symm

/-! ### numbers -/
def I (s : BitVec 32) : Int := (s.toNat : Int)
theorem I_range (s : BitVec 32) : 0 ≤ I s ∧ I s < 4294967296 := by
  unfold I
  have := s.isLt
  omega
theorem I_inj {a b : BitVec 32} (h : I a = I b) : a = b := BitVec.eq_of_toNat_eq (by unfold I at h; omega)
theorem ofInt_I (s : BitVec 32) : BitVec.ofInt 32 (I s) = s := by unfold I; simp
theorem I_ofInt (n : Int) : I (BitVec.ofInt 32 n) = n % 4294967296 := by
  unfold I
  rw [BitVec.toNat_ofInt]
  omega
theorem back (s : BitVec 32) : IntKind.u32.wrap (s.toNat : Int) = I s := by
  have := s.isLt
  unfold I
  rw [IntKind.wrap_u32]
  omega
theorem xor_I (x y : Int) : Go.bits .xor .u32 x y = I (BitVec.ofInt 32 x ^^^ BitVec.ofInt 32 y) := back _
theorem and_I (x y : Int) : Go.bits .and .u32 x y = I (BitVec.ofInt 32 x &&& BitVec.ofInt 32 y) := back _
theorem I_shift (s : BitVec 32) (n : Nat) (m : Int) (h : ((2 ^ n : Nat) : Int) = m) : I s / m = I (s >>> n) := by
  unfold I
  rw [BitVec.toNat_ushiftRight, Nat.shiftRight_eq_div_pow, ← h]
  rfl
theorem ofInt_mod (c : Int) : BitVec.ofInt 32 (c % 4294967296) = BitVec.ofInt 32 c := by
  rw [← I_ofInt, ofInt_I]

theorem ones_xor (s : BitVec 32) : BitVec.ofInt 32 4294967295 ^^^ s = ~~~s := by
  have h : BitVec.ofInt 32 4294967295 = BitVec.allOnes 32 := by decide
  rw [h, BitVec.allOnes_xor]

/-! ### bytes -/
def raw (s : BitVec 32) (l : List Int) : BitVec 32 := l.foldl (fun s c => steps 8 (s ^^^ BitVec.ofInt 32 c)) s
theorem raw_nil (s : BitVec 32) : raw s [] = s := rfl
theorem raw_cons (s : BitVec 32) (c : Int) (l : List Int) : raw s (c :: l) = raw (steps 8 (s ^^^ BitVec.ofInt 32 c)) l := rfl
theorem raw_append (s : BitVec 32) (l m : List Int) : raw s (l ++ m) = raw (raw s l) m := List.foldl_append
def sum (s : BitVec 32) (l : List Int) : BitVec 32 := ~~~(raw (~~~s) l)
theorem sum_append (s : BitVec 32) (l m : List Int) : sum s (l ++ m) = sum (sum s l) m := by
  unfold sum
  rw [raw_append, BitVec.not_not]
theorem sum_nil (s : BitVec 32) : sum s [] = s := by
  unfold sum
  rw [raw_nil, BitVec.not_not]
def sumAll (l : List (List Int)) : BitVec 32 := l.foldl sum 0#32
theorem sumAll_flat (l : List (List Int)) : ∀ s, l.foldl sum s = sum s l.flatten := by
  induction l with
  | nil => intro s; simp [sum_nil]
  | cons b l ih => intro s; rw [List.foldl_cons, ih, List.flatten_cons, sum_append]

/-! ### the functions -/
theorem nibble_low (i : Fin 16) : crc_nibble.f (I (BitVec.ofNat 32 i.val)) = some (I (steps 4 (BitVec.ofNat 32 i.val))) := by
  revert i
  decide +kernel
theorem nibble_some (e : BitVec 32) : crc_nibble.f (I (e &&& 15#32)) = some (I (steps 4 (e &&& 15#32))) := by
  have h : (e &&& 15#32).toNat < 16 := by
    rw [BitVec.toNat_and]
    exact Nat.lt_of_le_of_lt Nat.and_le_right (by decide)
  have := nibble_low ⟨_, h⟩
  simpa using this
theorem low15 : ∀ i, i < 32 → (15#32).getLsbD i = decide (i < 4) := by decide
theorem getD_rd (l : List Int) (i : Nat) : rd l (i : Int) = l.getD i 0 := by simp [rd]
theorem drop_cons (l : List Int) (i : Nat) (h : i < l.length) : l.drop i = rd l (i : Int) :: l.drop (i + 1) := by
  rw [getD_rd, List.drop_eq_getElem_cons h]
  simp [h]
theorem wrap_one (i n : Nat) (h : i < n) (hn : n ≤ 9223372036854775807) : wrap64 ((i : Int) + 1) = ((i + 1 : Nat) : Int) := by
  unfold wrap64
  omega
theorem more_from (l : List Int) (hl : l.length ≤ 9223372036854775807) (d : Nat) : ∀ (i : Nat) (s : BitVec 32), i + d = l.length →
    Ev (fun k => crc_More.l0 k (I s) l (l.length : Int) (i : Int)) (I (~~~(raw s (l.drop i)))) := by
  induction d with
  | zero =>
    intro i s h
    refine Ev.step (f := fun _ => some (I (~~~(raw s (l.drop i))))) (fun k => ?_) (Ev.now _)
    rw [crc_More.l0, if_neg (by omega), xor_I, ofInt_I, List.drop_of_length_le (by omega), raw_nil, ones_xor]
  | succ d ih =>
    intro i s h
    have hi : i < l.length := by omega
    refine Ev.step (f := fun k => crc_More.l0 k (I (steps 8 (s ^^^ BitVec.ofInt 32 (rd l (i : Int))))) l (l.length : Int) ((i + 1 : Nat) : Int)) (fun k => ?_) ?_
    · rw [crc_More.l0, if_pos (by omega), if_pos (by omega), if_pos (by omega), xor_I, ofInt_I, ofInt_mod]
      generalize s ^^^ BitVec.ofInt 32 (rd l (i : Int)) = e
      rw [and_I, ofInt_I, show BitVec.ofInt 32 15 = 15#32 from rfl, nibble_some, Option.bind_some, I_shift e 4 16 (by decide), xor_I, ofInt_I, ofInt_I,
        steps_low 4 e 15#32 low15, and_I, ofInt_I, show BitVec.ofInt 32 15 = 15#32 from rfl, nibble_some, Option.bind_some, I_shift _ 4 16 (by decide), xor_I, ofInt_I, ofInt_I,
        steps_low 4 _ 15#32 low15, ← steps_add, wrap_one i l.length hi hl]
    · rw [drop_cons l i hi, raw_cons]
      exact ih (i + 1) _ (by omega)
theorem more (l : List Int) (hl : l.length ≤ 9223372036854775807) (s : BitVec 32) : Ev (fun k => crc_More.f k (I s) l) (I (sum s l)) := by
  have h := more_from l hl l.length 0 (~~~s) (by omega)
  refine Ev.congr (fun k => ?_) h
  rw [crc_More.f, xor_I, ofInt_I]
  rw [ones_xor]
  rfl
theorem ref_step (s : BitVec 32) : plinthref02_step.f (I s) = some (I (step s)) := by
  have hr := I_range s
  have h2 : I s / (2 : Int) = I (s >>> 1) := I_shift s 1 2 (by decide)
  have h3 := I_range (s >>> 1)
  unfold plinthref02_step.f
  rw [Int.tmod_eq_emod_of_nonneg hr.1, Int.tdiv_eq_ediv_of_nonneg hr.1, h2, Int.emod_eq_of_lt h3.1 h3.2]
  have hb : (s.getLsbD 0 = true) ↔ I s % 2 = 1 := by
    unfold I
    rw [BitVec.getLsbD, Nat.testBit_zero]
    simp
    omega
  by_cases h : I s % 2 = 1
  · rw [if_pos h, xor_I, ofInt_I]
    unfold step
    rw [if_pos (hb.2 h)]
    rfl
  · rw [if_neg h]
    unfold step
    rw [if_neg (fun z => h (hb.1 z)), BitVec.xor_zero]
theorem ref_bits (l : List Int) (i : Int) (d : Nat) : ∀ (j : Nat) (s : BitVec 32) (r : Int), j + d = 8 → Ev (fun k => plinthref02_More.l0 k l (I (steps d s)) (wrap64 (i + 1))) r →
    Ev (fun k => plinthref02_More.l1 k l (I s) i (j : Int)) r := by
  induction d with
  | zero =>
    intro j s r h hr
    refine Ev.step (fun k => ?_) hr
    rw [plinthref02_More.l1, if_neg (by omega)]
    rfl
  | succ d ih =>
    intro j s r h hr
    refine Ev.step (f := fun k => plinthref02_More.l1 k l (I (step s)) i ((j + 1 : Nat) : Int)) (fun k => ?_) (ih (j + 1) (step s) r (by omega) hr)
    rw [plinthref02_More.l1, if_pos (by omega), ref_step, Option.bind_some, wrap_one j 8 (by omega) (by omega)]
theorem ref_from (l : List Int) (hl : l.length ≤ 9223372036854775807) (d : Nat) : ∀ (i : Nat) (s : BitVec 32), i + d = l.length →
    Ev (fun k => plinthref02_More.l0 k l (I s) (i : Int)) (I (~~~(raw s (l.drop i)))) := by
  induction d with
  | zero =>
    intro i s h
    refine Ev.step (f := fun _ => some (I (~~~(raw s (l.drop i))))) (fun k => ?_) (Ev.now _)
    rw [plinthref02_More.l0, if_neg (by omega), xor_I, ofInt_I, List.drop_of_length_le (by omega), raw_nil, ones_xor]
  | succ d ih =>
    intro i s h
    have hi : i < l.length := by omega
    refine Ev.step (f := fun k => plinthref02_More.l1 k l (I (s ^^^ BitVec.ofInt 32 (rd l (i : Int)))) (i : Int) ((0 : Nat) : Int)) (fun k => ?_) ?_
    · rw [plinthref02_More.l0, if_pos (by omega), if_pos (by omega), xor_I, ofInt_I, ofInt_mod]
      rfl
    · refine ref_bits l i 8 0 _ _ (by omega) ?_
      rw [wrap_one i l.length hi hl, drop_cons l i hi, raw_cons]
      exact ih (i + 1) _ (by omega)
theorem ref_more (l : List Int) (hl : l.length ≤ 9223372036854775807) (s : BitVec 32) : Ev (fun k => plinthref02_More.f k (I s) l) (I (sum s l)) := by
  have h := ref_from l hl l.length 0 (~~~s) (by omega)
  refine Ev.congr (fun k => ?_) h
  rw [plinthref02_More.f, xor_I, ofInt_I]
  rw [ones_xor]
  rfl
theorem rdL (l : List (List Int)) (i : Nat) (h : i < l.length) : l.drop i = l.getD i [] :: l.drop (i + 1) := by
  rw [List.drop_eq_getElem_cons h]
  simp [h]
theorem all_from (l : List (List Int)) (hl : l.length ≤ 9223372036854775807) (hb : ∀ b ∈ l, b.length ≤ 9223372036854775807) (d : Nat) : ∀ (i : Nat) (s : BitVec 32), i + d = l.length →
    Ev (fun k => crc_Sum.l0 k (I s) l (l.length : Int) (i : Int)) (I ((l.drop i).foldl sum s)) := by
  induction d with
  | zero =>
    intro i s h
    refine Ev.step (f := fun _ => some (I ((l.drop i).foldl sum s))) (fun k => ?_) (Ev.now _)
    rw [crc_Sum.l0, if_neg (by omega), List.drop_of_length_le (by omega)]
    rfl
  | succ d ih =>
    intro i s h
    have hi : i < l.length := by omega
    have hm := more (l.getD i []) (by
      apply hb
      simp [hi]) s
    refine Ev.step (f := fun k => (crc_More.f k (I s) (l.getD i [])).bind fun t => crc_Sum.l0 k t l (l.length : Int) ((i + 1 : Nat) : Int)) (fun k => ?_) ?_
    · rw [crc_Sum.l0, if_pos (by omega), if_pos (by omega), if_pos (by omega), wrap_one i l.length hi hl]
      rfl
    · refine Ev.bind hm ?_
      rw [rdL l i hi, List.foldl_cons]
      exact ih (i + 1) _ (by omega)
theorem all (l : List (List Int)) (hl : l.length ≤ 9223372036854775807) (hb : ∀ b ∈ l, b.length ≤ 9223372036854775807) : Ev (fun k => crc_Sum.f k l) (I (sumAll l)) := by
  have h := all_from l hl hb l.length 0 0#32 (by omega)
  refine Ev.congr (fun k => ?_) h
  rw [crc_Sum.f]
  rfl
end Go.Proofs.Ytcajcbeioilgmaa.Crc

/- Sealing and opening: a row of bytes with its sum behind it; what is opened; that four bytes side by side that are others are seen. -/
namespace Go.Proofs.Ytcajcbeioilgmaa.Crc
open Go.RowKit Go.Proofs.Ytcajcbeioilgmaa.F Go.Proofs.YtcajcbeioilgmaaW.PrintWords Go.Proofs.YtcajcbeioilgmaaW.PrintLast Go.Proofs.YtcajcbeioilgmaaW.PrintMore

def le32 (v : Int) : List Int := [v % 256, (v / 256) % 256, (v / 65536) % 256, (v / 16777216) % 256]
def sealed (b : List Int) : List Int := b ++ le32 (I (sum 0#32 b))
theorem sealed_length (b : List Int) : (sealed b).length = b.length + 4 := by simp [sealed, le32]
def opened (l : List Int) : List Int × Int := if l.length < 4 then ([], 10) else if sealed (l.take (l.length - 4)) = l then (l.take (l.length - 4), 0) else ([], 31)

theorem clone_some (l : List Int) (h : l.length < 140737488355328) : slices_Clone_byte_byte.f l = some l := by
  unfold slices_Clone_byte_byte.f
  simp only [Option.bind_some, List.nil_append, List.length_nil]
  rw [if_pos (by omega)]
theorem seal_low (b : List Int) (v : Int) (h : b.length < 140737488355000) : crc_seal.f b v = some (b ++ le32 v) := by
  unfold crc_seal.f
  rw [clone_some b (by omega)]
  simp only [Option.bind_some, List.length_cons, List.length_nil]
  rw [if_pos (by omega)]
  rfl
theorem seal_ (b : List Int) (h : b.length < 140737488355000) : Ev (fun k => crc_Seal.f k b) (sealed b) := by
  have ha := all [b] (by simp) (by simp; omega)
  have hs : sumAll [b] = sum 0#32 b := rfl
  unfold crc_Seal.f
  refine Ev.bind ha ?_
  simp only [seal_low b _ h, Option.bind_some, hs]
  exact Ev.now _
theorem equal_from (a b : List Int) (he : a.length = b.length) (hl : a.length ≤ 9223372036854775807) (d : Nat) : ∀ i : Nat, i + d = a.length →
    Ev (fun k => slices_Equal_byte_byte.l0 k a b (a.length : Int) (i : Int)) (decide (a.drop i = b.drop i)) := by
  induction d with
  | zero =>
    intro i h
    refine Ev.step (f := fun _ => some (decide (a.drop i = b.drop i))) (fun k => ?_) (Ev.now _)
    rw [slices_Equal_byte_byte.l0, if_neg (by omega), List.drop_of_length_le (by omega), List.drop_of_length_le (by omega)]
    simp
  | succ d ih =>
    intro i h
    have hi : i < a.length := by omega
    have hj : i < b.length := by omega
    have ha := drop_cons a i hi
    have hb := drop_cons b i hj
    by_cases hc : rd a (i : Int) = rd b (i : Int)
    · refine Ev.step (f := fun k => slices_Equal_byte_byte.l0 k a b (a.length : Int) ((i + 1 : Nat) : Int)) (fun k => ?_) ?_
      · rw [slices_Equal_byte_byte.l0, if_pos (by omega), if_pos (by omega), if_pos (by omega), if_pos (by omega), if_pos hc, wrap_one i a.length hi hl]
      · have := ih (i + 1) (by omega)
        have hd : decide (a.drop i = b.drop i) = decide (a.drop (i + 1) = b.drop (i + 1)) := by
          rw [ha, hb, hc]
          simp
        rw [hd]
        exact this
    · refine Ev.step (f := fun _ => some (decide (a.drop i = b.drop i))) (fun k => ?_) (Ev.now _)
      rw [slices_Equal_byte_byte.l0, if_pos (by omega), if_pos (by omega), if_pos (by omega), if_pos (by omega), if_neg hc, ha, hb]
      simp [hc]
theorem equal_ (a b : List Int) (hl : a.length ≤ 9223372036854775807) : Ev (fun k => slices_Equal_byte_byte.f k a b) (decide (a = b)) := by
  by_cases h : a.length = b.length
  · refine Ev.congr (fun k => ?_) (equal_from a b h hl a.length 0 (by omega))
    rw [slices_Equal_byte_byte.f, if_pos (by omega)]
    rfl
  · refine Ev.congr (f := fun _ => some (decide (a = b))) (fun k => ?_) (Ev.now _)
    rw [slices_Equal_byte_byte.f, if_neg (by omega)]
    have : a ≠ b := fun e => h (by rw [e])
    simp [this]
theorem less4 (n : Nat) (h : 4 ≤ n) (hn : n < 140737488355000) : wrap64 ((n : Int) - 4) = ((n - 4 : Nat) : Int) := by
  unfold wrap64
  omega
theorem open_ (l : List Int) (h : l.length < 140737488355000) : Ev (fun k => crc_Open.f k l) (opened l) := by
  unfold opened
  by_cases h4 : l.length < 4
  · rw [if_pos h4]
    refine Ev.congr (f := fun _ => some ([], 10)) (fun k => ?_) (Ev.now _)
    rw [crc_Open.f, if_pos (by omega)]
  · rw [if_neg h4]
    have hb : (l.take (l.length - 4)).length < 140737488355000 := by rw [List.length_take]; omega
    have hS := seal_ (l.take (l.length - 4)) hb
    have hE := equal_ (sealed (l.take (l.length - 4))) l (by rw [sealed_length]; omega)
    refine Ev.congr (f := fun k => (crc_Seal.f k (l.take (l.length - 4))).bind fun t => (slices_Equal_byte_byte.f k t l).bind fun t2 => if t2 = true then some (l.take (l.length - 4), 0) else some ([], 31)) (fun k => ?_) ?_
    · rw [crc_Open.f, if_neg (by omega), less4 l.length (by omega) h, if_pos (by omega), if_pos (by omega)]
      simp only [Option.bind_some, Int.toNat_natCast, clone_some (l.take (l.length - 4)) (by omega)]
    · refine Ev.bind hS (Ev.bind hE ?_)
      by_cases hc : sealed (l.take (l.length - 4)) = l
      · simp only [hc, decide_true, if_true]
        exact Ev.now _
      · simp only [hc, decide_false, if_false, Bool.false_eq_true]
        exact Ev.now _

/-! ### four bytes as 32 bits -/
def comp (c0 c1 c2 c3 : BitVec 32) : BitVec 32 := c0 ^^^ (c1 <<< 8) ^^^ (c2 <<< 16) ^^^ (c3 <<< 24)
theorem steps_up (n : Nat) (c : BitVec 32) (hn : n + 8 ≤ 32) (h : ∀ i, 8 ≤ i → c.getLsbD i = false) : steps n (c <<< n) = c := by
  rw [steps_shift n (c <<< n)]
  · apply BitVec.eq_of_getLsbD_eq
    intro i hi
    rw [BitVec.getLsbD_ushiftRight, BitVec.getLsbD_shiftLeft]
    by_cases h8 : i < 8
    · have h1 : n + i < 32 := by omega
      have h2 : ¬ n + i < n := by omega
      simp [h1, h2]
    · simp [h i (by omega)]
  · intro i hi
    rw [BitVec.getLsbD_shiftLeft]
    simp [hi]
theorem raw4 (r c0 c1 c2 c3 : BitVec 32) (h1 : ∀ i, 8 ≤ i → c1.getLsbD i = false) (h2 : ∀ i, 8 ≤ i → c2.getLsbD i = false) (h3 : ∀ i, 8 ≤ i → c3.getLsbD i = false) :
    steps 8 (steps 8 (steps 8 (steps 8 (r ^^^ c0) ^^^ c1) ^^^ c2) ^^^ c3) = steps 32 (r ^^^ comp c0 c1 c2 c3) := by
  have e3 : steps 32 (c3 <<< 24) = steps 8 c3 := (steps_add 24 8 (c3 <<< 24)).trans (by rw [steps_up 24 c3 (by omega) h3])
  have e2 : steps 32 (c2 <<< 16) = steps 16 c2 := (steps_add 16 16 (c2 <<< 16)).trans (by rw [steps_up 16 c2 (by omega) h2])
  have e1 : steps 32 (c1 <<< 8) = steps 24 c1 := (steps_add 8 24 (c1 <<< 8)).trans (by rw [steps_up 8 c1 (by omega) h1])
  have a2 : ∀ s, steps 8 (steps 8 s) = steps 16 s := fun s => (steps_add 8 8 s).symm
  have a3 : ∀ s, steps 8 (steps 16 s) = steps 24 s := fun s => (steps_add 16 8 s).symm
  have a4 : ∀ s, steps 8 (steps 24 s) = steps 32 s := fun s => (steps_add 24 8 s).symm
  unfold comp
  simp only [steps_xor, e1, e2, e3, a2, a3, a4]
  simp only [BitVec.xor_assoc]
theorem byte_high (c : Int) (h0 : 0 ≤ c) (h1 : c ≤ 255) : ∀ i, 8 ≤ i → (BitVec.ofInt 32 c).getLsbD i = false := by
  intro i hi
  rw [BitVec.getLsbD, BitVec.toNat_ofInt]
  have hlt : (c % ((2 ^ 32 : Nat) : Int)).toNat < 2 ^ 8 := by omega
  exact Nat.testBit_lt_two_pow (Nat.lt_of_lt_of_le hlt (Nat.pow_le_pow_right (by decide) hi))
def comp4 (c0 c1 c2 c3 : Int) : BitVec 32 := comp (BitVec.ofInt 32 c0) (BitVec.ofInt 32 c1) (BitVec.ofInt 32 c2) (BitVec.ofInt 32 c3)
theorem raw_four (r : BitVec 32) (c0 c1 c2 c3 : Int) (h1 : 0 ≤ c1 ∧ c1 ≤ 255) (h2 : 0 ≤ c2 ∧ c2 ≤ 255) (h3 : 0 ≤ c3 ∧ c3 ≤ 255) : raw r [c0, c1, c2, c3] = steps 32 (r ^^^ comp4 c0 c1 c2 c3) := by
  rw [raw_cons, raw_cons, raw_cons, raw_cons, raw_nil]
  exact raw4 r _ _ _ _ (byte_high c1 h1.1 h1.2) (byte_high c2 h2.1 h2.2) (byte_high c3 h3.1 h3.2)
theorem I_mod256 (s : BitVec 32) : BitVec.ofInt 32 (I s % 256) = s &&& 255#32 := by
  apply BitVec.eq_of_toNat_eq
  rw [BitVec.toNat_ofInt, BitVec.toNat_and, show (255#32).toNat = 2 ^ 8 - 1 from rfl, Nat.and_two_pow_sub_one_eq_mod]
  unfold I
  have := s.isLt
  omega
theorem low255 : ∀ i, (255#32).getLsbD i = decide (i < 8) := by
  intro i
  by_cases h : i < 32
  · revert i
    decide
  · rw [BitVec.getLsbD_of_ge _ _ (by omega)]
    simp
    omega
theorem comp_self (t : BitVec 32) : comp (t &&& 255#32) ((t >>> 8) &&& 255#32) ((t >>> 16) &&& 255#32) ((t >>> 24) &&& 255#32) = t := by
  apply BitVec.eq_of_getLsbD_eq
  intro i hi
  unfold comp
  simp only [BitVec.getLsbD_xor, BitVec.getLsbD_shiftLeft, BitVec.getLsbD_and, BitVec.getLsbD_ushiftRight, low255, hi, decide_true, Bool.true_and]
  by_cases h1 : i < 8
  · simp [h1, show i < 16 by omega, show i < 24 by omega]
  · by_cases h2 : i < 16
    · simp [h1, h2, show i < 24 by omega, show i - 8 < 8 by omega, show 8 + (i - 8) = i by omega]
    · by_cases h3 : i < 24
      · simp [h1, h2, h3, show ¬ i - 8 < 8 by omega, show i - 16 < 8 by omega, show 16 + (i - 16) = i by omega]
      · simp [h1, h2, h3, show ¬ i - 8 < 8 by omega, show ¬ i - 16 < 8 by omega, show i - 24 < 8 by omega, show 24 + (i - 24) = i by omega]
theorem comp4_le (t : BitVec 32) : comp4 (I t % 256) ((I t / 256) % 256) ((I t / 65536) % 256) ((I t / 16777216) % 256) = t := by
  unfold comp4
  rw [I_shift t 8 256 (by decide), I_shift t 16 65536 (by decide), I_shift t 24 16777216 (by decide), I_mod256, I_mod256, I_mod256, I_mod256]
  exact comp_self t
theorem raw_le32 (r t : BitVec 32) : raw r (le32 (I t)) = steps 32 (r ^^^ t) := by
  unfold le32
  rw [raw_four r _ _ _ _ (by omega) (by omega) (by omega), comp4_le]
theorem xor_not (x : BitVec 32) : x ^^^ ~~~x = BitVec.allOnes 32 := by
  apply BitVec.eq_of_getLsbD_eq
  intro i hi
  simp only [BitVec.getLsbD_xor, BitVec.getLsbD_not, BitVec.getLsbD_allOnes, hi, decide_true, Bool.true_and]
  cases x.getLsbD i <;> rfl
/-- What a sealed row comes to, whatever it holds. -/
theorem raw_sealed (b : List Int) : raw (~~~(0#32)) (sealed b) = steps 32 (BitVec.allOnes 32) := by
  unfold sealed
  rw [raw_append, raw_le32]
  unfold sum
  rw [xor_not]
theorem step_zero {y : BitVec 32} (h : step y = 0#32) : y = 0#32 := by
  unfold step at h
  have h31 : ((y >>> 1) ^^^ (if y.getLsbD 0 then poly else 0#32)).getLsbD 31 = false := by rw [h]; rfl
  rw [BitVec.getLsbD_xor, BitVec.getLsbD_ushiftRight, BitVec.getLsbD_of_ge y (1 + 31) (by omega)] at h31
  cases hl : y.getLsbD 0 with
  | true =>
    rw [hl] at h31
    exact absurd h31 (by decide)
  | false =>
    rw [hl] at h
    simp only [Bool.false_eq_true, if_false, BitVec.xor_zero] at h
    apply BitVec.eq_of_getLsbD_eq
    intro i hi
    rcases i with _ | i
    · rw [hl]; rfl
    · have : (y >>> 1).getLsbD i = (0#32).getLsbD i := by rw [h]
      rw [BitVec.getLsbD_ushiftRight] at this
      rw [Nat.add_comm]
      simpa using this
theorem step_inj {a b : BitVec 32} (h : step a = step b) : a = b := by
  have h1 : step (a ^^^ b) = 0#32 := by rw [step_xor, h, BitVec.xor_self]
  exact BitVec.xor_eq_zero_iff.1 (step_zero h1)
theorem steps_inj (n : Nat) : ∀ {a b : BitVec 32}, steps n a = steps n b → a = b := by
  induction n with
  | zero => intro a b h; exact h
  | succ n ih => intro a b h; exact step_inj (ih h)
theorem xor_left {a b c : BitVec 32} (h : a ^^^ b = a ^^^ c) : b = c := by
  have := congrArg (fun x => a ^^^ x) h
  simpa [← BitVec.xor_assoc] using this
theorem xor_right {a b c : BitVec 32} (h : a ^^^ c = b ^^^ c) : a = b := by
  rw [BitVec.xor_comm a, BitVec.xor_comm b] at h
  exact xor_left h
theorem raw_inj (l : List Int) : ∀ {a b : BitVec 32}, raw a l = raw b l → a = b := by
  induction l with
  | nil => intro a b h; exact h
  | cons c l ih =>
    intro a b h
    rw [raw_cons, raw_cons] at h
    exact xor_right (steps_inj 8 (ih h))
/-- Four bytes side by side that are others: no sealed row any more. -/
theorem spoilt_not (b p z : List Int) (c0 c1 c2 c3 e0 e1 e2 e3 : Int) (hs : sealed b = p ++ [c0, c1, c2, c3] ++ z)
    (hc1 : 0 ≤ c1 ∧ c1 ≤ 255) (hc2 : 0 ≤ c2 ∧ c2 ≤ 255) (hc3 : 0 ≤ c3 ∧ c3 ≤ 255) (he1 : 0 ≤ e1 ∧ e1 ≤ 255) (he2 : 0 ≤ e2 ∧ e2 ≤ 255) (he3 : 0 ≤ e3 ∧ e3 ≤ 255)
    (hne : comp4 c0 c1 c2 c3 ≠ comp4 e0 e1 e2 e3) (d : List Int) : sealed d ≠ p ++ [e0, e1, e2, e3] ++ z := by
  intro hd
  have h1 := raw_sealed b
  have h2 := raw_sealed d
  rw [hs, raw_append, raw_append, raw_four _ _ _ _ _ hc1 hc2 hc3] at h1
  rw [hd, raw_append, raw_append, raw_four _ _ _ _ _ he1 he2 he3, ← h1] at h2
  exact hne (xor_left (steps_inj 32 (raw_inj z h2))).symm
end Go.Proofs.Ytcajcbeioilgmaa.Crc

/- The reference's sealing and opening: as the program's. -/
namespace Go.Proofs.Ytcajcbeioilgmaa.Crc
open Go.RowKit Go.Proofs.Ytcajcbeioilgmaa.F Go.Proofs.Ytcajcbeioilgmaa.Bytes Go.Proofs.YtcajcbeioilgmaaW.PrintWords Go.Proofs.YtcajcbeioilgmaaW.PrintLast Go.Proofs.YtcajcbeioilgmaaW.PrintMore

theorem ref_of (b : List Int) (h : b.length ≤ 9223372036854775807) : Ev (fun k => plinthref02_Of.f k b) (I (sum 0#32 b)) := by
  unfold plinthref02_Of.f
  exact Ev.bind (ref_more b h 0#32) (Ev.now _)
theorem ref_seal (b : List Int) (h : b.length < 140737488355000) : Ev (fun k => plinthref02_Seal.f k b) (sealed b) := by
  unfold plinthref02_Seal.f
  refine Ev.bind (ref_of b (by omega)) ?_
  simp only [Option.bind_some, List.nil_append, List.length_nil, List.length_cons]
  rw [show (fun n : Nat => if 0 + b.length < 140737488355328 then if b.length + (0 + 1 + 1 + 1 + 1) < 140737488355328 then some (b ++ [I (sum 0#32 b) % 256, I (sum 0#32 b) / 256 % 256, I (sum 0#32 b) / 65536 % 256, I (sum 0#32 b) / 16777216 % 256]) else none else none) = fun _ => some (sealed b) from by
    funext n
    rw [if_pos (by omega), if_pos (by omega)]
    rfl]
  exact Ev.now _
theorem isByte_le32 (v : Int) : isByte (le32 v) := by
  intro x hx
  simp only [le32, List.mem_cons, List.not_mem_nil, or_false] at hx
  rcases hx with rfl | rfl | rfl | rfl <;> omega
theorem isByte_sealed {b : List Int} (h : isByte b) : isByte (sealed b) := isByte_append h (isByte_le32 _)
theorem ref_open (l : List Int) (h : l.length < 140737488355000) (hb : isByte l) : Ev (fun k => plinthref02_Open.f k l) (opened l) := by
  unfold opened
  by_cases h4 : l.length < 4
  · rw [if_pos h4]
    refine Ev.congr (f := fun _ => some ([], 10)) (fun k => ?_) (Ev.now _)
    rw [plinthref02_Open.f, if_pos (by omega)]
  · rw [if_neg h4]
    have hl : (l.take (l.length - 4)).length < 140737488355000 := by rw [List.length_take]; omega
    have hS := ref_seal (l.take (l.length - 4)) hl
    refine Ev.congr (f := fun k => (plinthref02_Seal.f k (l.take (l.length - 4))).bind fun t => if (strOfNums t).toList = (strOfNums l).toList then some (l.take (l.length - 4), 0) else some ([], 31)) (fun k => ?_) ?_
    · rw [plinthref02_Open.f, if_neg (by omega), less4 l.length (by omega) h]
      simp only [Option.bind_some, Int.toNat_natCast, List.nil_append, List.length_nil]
      rw [if_pos (by omega), if_pos (by omega), if_pos (by omega)]
    · refine Ev.bind hS ?_
      have hi := text_iff (isByte_sealed (isByte_take (l.length - 4) hb)) hb
      by_cases hc : sealed (l.take (l.length - 4)) = l
      · rw [if_pos hc]
        simp only [hi.2 hc, if_true]
        exact Ev.now _
      · rw [if_neg hc]
        exact Ev.congr (f := fun _ => some ([], 31)) (fun k => by rw [if_neg (fun z => hc (hi.1 z))]) (Ev.now _)
theorem isByte_opened {l : List Int} (h : isByte l) : isByte (opened l).1 := by
  unfold opened
  split
  · exact isByte_nil
  · split
    · exact isByte_take _ h
    · exact isByte_nil
theorem opened_sealed (b : List Int) : opened (sealed b) = (b, 0) := by
  have hl : (sealed b).length - 4 = b.length := by rw [sealed_length]; omega
  have ht : (sealed b).take b.length = b := by simp [sealed]
  unfold opened
  rw [if_neg (by rw [sealed_length]; omega), hl, ht, if_pos rfl]
end Go.Proofs.Ytcajcbeioilgmaa.Crc

/- Numbers and texts as bytes, in plain words: the bytes of a number, the number of bytes, what is put and what is got. -/
namespace Go.Proofs.Ytcajcbeioilgmaa.Octets
open Go.RowKit Go.Proofs.Ytcajcbeioilgmaa.Bytes Go.Proofs.YtcajcbeioilgmaaW.PrintWords Go.Proofs.YtcajcbeioilgmaaW.PrintLast Go.Proofs.YtcajcbeioilgmaaW.PrintMore

/-! ### lists and numbers -/
theorem rd_nat (l : List Int) (i : Nat) (h : i < l.length) : rd l (i : Int) = l[i] := by
  simp [rd, h]
theorem drop_rd (l : List Int) (i : Nat) (h : i < l.length) : l.drop i = rd l (i : Int) :: l.drop (i + 1) := by
  rw [rd_nat l i h, List.drop_eq_getElem_cons h]
theorem take_rd (l : List Int) (i : Nat) (h : i < l.length) : l.take (i + 1) = l.take i ++ [rd l (i : Int)] := by
  rw [rd_nat l i h, List.take_succ_eq_append_getElem h]
theorem rd_byte {l : List Int} (hb : isByte l) (i : Nat) (h : i < l.length) : 0 ≤ rd l (i : Int) ∧ rd l (i : Int) ≤ 255 := by
  rw [rd_nat l i h]
  exact hb _ (List.getElem_mem h)
theorem wrap_next (i n : Nat) (h : i < n) (hn : n ≤ 9223372036854775807) : wrap64 ((i : Int) + 1) = ((i + 1 : Nat) : Int) := by
  unfold wrap64
  omega
theorem wrap_in (x : Int) (h0 : -9223372036854775808 ≤ x) (h1 : x ≤ 9223372036854775807) : wrap64 x = x := by
  unfold wrap64
  omega
theorem u64_in (x : Int) (h0 : 0 ≤ x) (h1 : x ≤ 18446744073709551615) : IntKind.u64.wrap x = x := by
  rw [IntKind.wrap_u64]
  omega
theorem eight (i : Nat) (h : i ≤ 8) : IntKind.u64.wrap (wrap64 (8 * (i : Int))) = ((8 * i : Nat) : Int) := by
  rw [wrap_in _ (by omega) (by omega), u64_in _ (by omega) (by omega)]
  omega
theorem pow256 (i : Nat) : (2 : Int) ^ (8 * i) = 256 ^ i := by
  rw [Int.pow_mul]
  rfl
theorem pow_pos (i : Nat) : (0 : Int) < 256 ^ i := Int.pow_pos (by decide)
theorem shr_eight (v : Int) (i : Nat) (h : i ≤ 8) : shr .u64 v ((8 * i : Nat) : Int) = v / 256 ^ i := by
  unfold shr
  rw [Int.toNat_natCast, Nat.min_eq_left (by simp [IntKind.bits]; omega), pow256]

/-! ### the number's bytes -/
def le (v : Int) (n : Nat) : List Int := (List.range n).map fun i => v / 256 ^ i % 256
theorem le_zero (v : Int) : le v 0 = [] := rfl
theorem le_succ (v : Int) (n : Nat) : le v (n + 1) = le v n ++ [v / 256 ^ n % 256] := by simp [le, List.range_succ]
theorem le_length (v : Int) (n : Nat) : (le v n).length = n := by simp [le]
theorem le_byte (v : Int) (n : Nat) : isByte (le v n) := by
  intro x hx
  simp only [le, List.mem_map, List.mem_range] at hx
  obtain ⟨i, _, rfl⟩ := hx
  omega
def val : List Int → Int
  | [] => 0
  | c :: l => c + 256 * val l
theorem val_append (l m : List Int) : val (l ++ m) = val l + 256 ^ l.length * val m := by
  induction l with
  | nil => simp [val]
  | cons c l ih =>
    rw [List.cons_append, val, val, ih, List.length_cons, Int.pow_succ, Int.mul_add, Int.mul_comm (256 ^ l.length) 256, Int.mul_assoc]
    omega
theorem val_range {l : List Int} (h : isByte l) : 0 ≤ val l ∧ val l < 256 ^ l.length := by
  induction l with
  | nil => simp [val]
  | cons c l ih =>
    have hc := h c (by simp)
    have hl := ih (fun x hx => h x (by simp [hx]))
    rw [val, List.length_cons, Int.pow_succ]
    omega
theorem val_le (v : Int) (n : Nat) : val (le v n) = v % 256 ^ n := by
  induction n with
  | zero => rw [le_zero, val, Int.pow_zero]; omega
  | succ n ih =>
    rw [le_succ, val_append, ih, le_length, val, val, Int.pow_succ]
    have h1 := Int.emod_add_mul_ediv v (256 ^ n)
    have h2 := Int.emod_add_mul_ediv v (256 ^ n * 256)
    have h3 : v / 256 ^ n / 256 = v / (256 ^ n * 256) := Int.ediv_ediv_of_nonneg (Int.le_of_lt (pow_pos n))
    have h4 := Int.emod_add_mul_ediv (v / 256 ^ n) 256
    rw [h3] at h4
    generalize v / (256 ^ n * 256) = q at *
    generalize (256 : Int) ^ n = p at *
    have h5 : p * (v / p) = p * (v / p % 256) + p * (256 * q) := by rw [← Int.mul_add, h4]
    rw [Int.mul_assoc] at h2
    simp only [Int.mul_zero, Int.add_zero]
    omega
theorem or_comm (k : IntKind) (x y : Int) : Go.bits .or k x y = Go.bits .or k y x := by
  unfold Go.bits
  simp only [BitVec.or_comm]
theorem wraps_u64 (n : Int) (h0 : 0 ≤ n) (h1 : n < 2 ^ 64) : IntKind.u64.wrap n = n := by
  rw [IntKind.wrap_u64]
  omega
theorem or_add (a c : Int) (i : Nat) (hi : i < 8) (ha0 : 0 ≤ a) (ha : a < 256 ^ i) (hc : 0 ≤ c ∧ c ≤ 255) : Go.bits .or .u64 a (c * 256 ^ i) = a + 256 ^ i * c := by
  rw [or_comm]
  have h : i = 0 ∨ i = 1 ∨ i = 2 ∨ i = 3 ∨ i = 4 ∨ i = 5 ∨ i = 6 ∨ i = 7 := by omega
  rcases h with rfl | rfl | rfl | rfl | rfl | rfl | rfl | rfl
  · rw [bits_join .u64 64 (by decide) wraps_u64 0 _ _ (by omega) (by omega) (by omega) ha0 (by omega) (by omega)]; omega
  · rw [bits_join .u64 64 (by decide) wraps_u64 8 _ _ (by omega) (by omega) (by omega) ha0 (by omega) (by omega)]; omega
  · rw [bits_join .u64 64 (by decide) wraps_u64 16 _ _ (by omega) (by omega) (by omega) ha0 (by omega) (by omega)]; omega
  · rw [bits_join .u64 64 (by decide) wraps_u64 24 _ _ (by omega) (by omega) (by omega) ha0 (by omega) (by omega)]; omega
  · rw [bits_join .u64 64 (by decide) wraps_u64 32 _ _ (by omega) (by omega) (by omega) ha0 (by omega) (by omega)]; omega
  · rw [bits_join .u64 64 (by decide) wraps_u64 40 _ _ (by omega) (by omega) (by omega) ha0 (by omega) (by omega)]; omega
  · rw [bits_join .u64 64 (by decide) wraps_u64 48 _ _ (by omega) (by omega) (by omega) ha0 (by omega) (by omega)]; omega
  · rw [bits_join .u64 64 (by decide) wraps_u64 56 _ _ (by omega) (by omega) (by omega) ha0 (by omega) (by omega)]; omega
theorem pow_mono {i j : Nat} (h : i ≤ j) : (256 : Int) ^ i ≤ 256 ^ j := by
  obtain ⟨d, rfl⟩ := Nat.exists_eq_add_of_le h
  rw [Int.pow_add]
  have h1 := pow_pos i
  have h2 := pow_pos d
  have := Int.mul_le_mul_of_nonneg_left (show (1 : Int) ≤ 256 ^ d by omega) (Int.le_of_lt h1)
  omega
theorem shl_eight (c : Int) (i : Nat) (hi : i < 8) (hc : 0 ≤ c ∧ c ≤ 255) : shl .u64 (IntKind.u64.wrap c) ((8 * i : Nat) : Int) = c * 256 ^ i := by
  unfold shl
  rw [Int.toNat_natCast, Nat.min_eq_left (by simp [IntKind.bits]; omega), pow256, u64_in c (by omega) (by omega)]
  have h1 := pow_pos i
  have h2 := pow_mono (show i ≤ 7 by omega)
  have h3 : c * 256 ^ i ≤ 255 * 256 ^ 7 := Int.mul_le_mul hc.2 h2 (Int.le_of_lt h1) (by decide)
  have h4 : 0 ≤ c * 256 ^ i := Int.mul_nonneg hc.1 (Int.le_of_lt h1)
  exact u64_in _ h4 (by omega)

/-! ### what is put, what is got -/
def putAllOf (b : List Int) (n : Nat) : List Int → List Int × Int
  | [] => (b, 0)
  | v :: l => if v < 256 ^ n then putAllOf (b ++ le v n) n l else ([], 5)
def putOf (b : List Int) (v n : Int) : List Int × Int := if n < 1 ∨ 8 < n then ([], 1) else if v < 256 ^ n.toNat then (b ++ le v n.toNat, 0) else ([], 5)
def getOf (b : List Int) (a n : Int) : Int × Int × Int :=
  if n < 1 ∨ 8 < n then (0, 0, 1) else if a < 0 ∨ (b.length : Int) < a then (0, 0, 5) else if (b.length : Int) - a < n then (0, 0, 10) else (val ((b.drop a.toNat).take n.toNat), a + n, 0)
def putTextOf (b s : List Int) : List Int × Int := if 16777216 < s.length then ([], 2) else (b ++ le (s.length : Int) 4 ++ s, 0)
def getTextOf (b : List Int) (a : Int) : List Int × Int × Int :=
  let g := getOf b a 4
  if g.2.2 ≠ 0 then ([], 0, g.2.2) else if 16777216 < g.1 then ([], 0, 2) else if (b.length : Int) - g.2.1 < g.1 then ([], 0, 10) else ((b.drop g.2.1.toNat).take g.1.toNat, g.2.1 + g.1, 0)
theorem isByte_putOf {b : List Int} (h : isByte b) (v n : Int) : isByte (putOf b v n).1 := by
  unfold putOf
  split
  · exact isByte_nil
  · split
    · exact isByte_append h (le_byte _ _)
    · exact isByte_nil
theorem isByte_putTextOf {b s : List Int} (h : isByte b) (hs : isByte s) : isByte (putTextOf b s).1 := by
  unfold putTextOf
  split
  · exact isByte_nil
  · exact isByte_append (isByte_append h (le_byte _ _)) hs
theorem isByte_getTextOf {b : List Int} (h : isByte b) (a : Int) : isByte (getTextOf b a).1 := by
  unfold getTextOf
  dsimp only
  split
  · exact isByte_nil
  · split
    · exact isByte_nil
    · split
      · exact isByte_nil
      · exact isByte_take _ (isByte_drop _ h)
end Go.Proofs.Ytcajcbeioilgmaa.Octets

/- The program's put, PutAll, Put, PutText: what they answer. -/
namespace Go.Proofs.Ytcajcbeioilgmaa.Octets
open Go.RowKit Go.Proofs.Ytcajcbeioilgmaa.F Go.Proofs.Ytcajcbeioilgmaa.Bytes Go.Proofs.YtcajcbeioilgmaaW.PrintWords Go.Proofs.YtcajcbeioilgmaaW.PrintLast Go.Proofs.YtcajcbeioilgmaaW.PrintMore

theorem clone_ (l : List Int) (h : l.length < 140737488355328) : slices_Clone_byte_byte.f l = some l := by
  unfold slices_Clone_byte_byte.f
  simp only [Option.bind_some, List.nil_append, List.length_nil]
  rw [if_pos (by omega)]
theorem sized_ (n : Int) : octets_sized.f n = some (decide (1 ≤ n ∧ n ≤ 8)) := by
  unfold octets_sized.f
  by_cases h : n ≥ 1
  · rw [if_pos h]
    simp [h]
  · rw [if_neg h]
    simp [h]
theorem fits_ (v : Int) (n : Nat) (hv : 0 ≤ v ∧ v ≤ 18446744073709551615) (hn : n ≤ 8) : octets_fits.f v (n : Int) = some (decide (v < 256 ^ n)) := by
  unfold octets_fits.f
  by_cases h : (n : Int) = 8
  · rw [if_pos h]
    obtain rfl : n = 8 := by omega
    have : v < 256 ^ 8 := by omega
    simp only [this, decide_true]
  · rw [if_neg h, eight n hn, if_pos (by omega), shr_eight v n hn]
    have hp := pow_pos n
    have hq : v / 256 ^ n = 0 ↔ v < 256 ^ n := by
      constructor
      · intro h0
        have h1 := Int.emod_add_mul_ediv v (256 ^ n)
        have h2 := Int.emod_lt_of_pos v hp
        rw [h0, Int.mul_zero] at h1
        omega
      · intro h0
        exact Int.ediv_eq_zero_of_lt hv.1 h0
    simp only [Option.some.injEq]
    by_cases h0 : v < 256 ^ n
    · rw [hq.2 h0]
      simp [h0]
    · have : ¬ v / 256 ^ n = 0 := fun z => h0 (hq.1 z)
      simp [this, h0]
theorem put_from (v : Int) (n : Nat) (hn : n ≤ 8) (d : Nat) : ∀ (i : Nat) (b : List Int), i + d = n → (b ++ le v i).length + d < 140737488355328 →
    Ev (fun k => octets_put.l0 k (b ++ le v i) v (n : Int) (i : Int)) (b ++ le v n) := by
  induction d with
  | zero =>
    intro i b h hb
    obtain rfl : i = n := by omega
    refine Ev.step (f := fun _ => some (b ++ le v i)) (fun k => ?_) (Ev.now _)
    rw [octets_put.l0, if_neg (by omega)]
  | succ d ih =>
    intro i b h hb
    refine Ev.step (f := fun k => octets_put.l0 k (b ++ le v (i + 1)) v (n : Int) ((i + 1 : Nat) : Int)) (fun k => ?_) (ih (i + 1) b (by omega) ?_)
    · rw [octets_put.l0, if_pos (by omega), eight i (by omega), if_pos (by omega), if_pos (by omega), shr_eight v i (by omega), wrap_next i n (by omega) (by omega), le_succ, List.append_assoc]
    · rw [List.length_append, le_length] at hb ⊢
      omega
theorem put_ (b : List Int) (v : Int) (n : Nat) (hn : n ≤ 8) (hb : b.length + n < 140737488355328) : Ev (fun k => octets_put.f k b v (n : Int)) (b ++ le v n) := by
  have h := put_from v n hn n 0 b (by omega) (by rw [le_zero, List.append_nil]; omega)
  refine Ev.congr (fun k => ?_) h
  rw [octets_put.f, le_zero, List.append_nil]
  rfl
theorem all_from (n : Nat) (hn : n ≤ 8) (l : List Int) (hl : ∀ v ∈ l, 0 ≤ v ∧ v ≤ 18446744073709551615) (hm : l.length ≤ 9223372036854775807) (d : Nat) : ∀ (i : Nat) (b : List Int), i + d = l.length → b.length + n * d < 140737488355328 →
    Ev (fun k => octets_PutAll.l0 k (n : Int) b l (l.length : Int) (i : Int)) (putAllOf b n (l.drop i)) := by
  induction d with
  | zero =>
    intro i b h hb
    refine Ev.step (f := fun _ => some (b, 0)) (fun k => ?_) ?_
    · rw [octets_PutAll.l0, if_neg (by omega)]
    · rw [List.drop_of_length_le (by omega)]
      exact Ev.now _
  | succ d ih =>
    intro i b h hb
    have hi : i < l.length := by omega
    have hv := hl (rd l (i : Int)) (by rw [rd_nat l i hi]; exact List.getElem_mem hi)
    rw [Nat.mul_succ] at hb
    rw [drop_rd l i hi, putAllOf]
    by_cases hf : rd l (i : Int) < 256 ^ n
    · rw [if_pos hf]
      refine Ev.step (f := fun k => (octets_put.f k b (rd l (i : Int)) (n : Int)).bind fun t => octets_PutAll.l0 k (n : Int) t l (l.length : Int) ((i + 1 : Nat) : Int)) (fun k => ?_) ?_
      · rw [octets_PutAll.l0, if_pos (by omega), if_pos (by omega), if_pos (by omega), fits_ _ n hv hn, Option.bind_some, decide_eq_true hf, if_pos rfl, wrap_next i l.length hi hm]
      · refine Ev.bind (put_ b _ n hn (by omega)) (ih (i + 1) _ (by omega) ?_)
        rw [List.length_append, le_length]
        omega
    · rw [if_neg hf]
      refine Ev.step (f := fun _ => some ([], 5)) (fun k => ?_) (Ev.now _)
      rw [octets_PutAll.l0, if_pos (by omega), if_pos (by omega), if_pos (by omega), fits_ _ n hv hn, Option.bind_some, decide_eq_false hf, if_neg (by decide)]
theorem putAll_ (b : List Int) (n : Nat) (l : List Int) (hn : 1 ≤ n ∧ n ≤ 8) (hl : ∀ v ∈ l, 0 ≤ v ∧ v ≤ 18446744073709551615) (hm : l.length ≤ 9223372036854775807) (hb : b.length + n * l.length < 140737488355328) :
    Ev (fun k => octets_PutAll.f k b (n : Int) l) (putAllOf b n l) := by
  have h := all_from n hn.2 l hl hm l.length 0 b (by omega) hb
  refine Ev.congr (fun k => ?_) h
  rw [octets_PutAll.f, sized_, Option.bind_some, decide_eq_true (by omega), if_pos rfl, clone_ b (by omega)]
  rfl
end Go.Proofs.Ytcajcbeioilgmaa.Octets

/- The program's Put and PutText. -/
namespace Go.Proofs.Ytcajcbeioilgmaa.Octets
open Go.RowKit Go.Proofs.Ytcajcbeioilgmaa.F Go.Proofs.Ytcajcbeioilgmaa.Bytes Go.Proofs.YtcajcbeioilgmaaW.PrintWords Go.Proofs.YtcajcbeioilgmaaW.PrintLast Go.Proofs.YtcajcbeioilgmaaW.PrintMore

theorem Put_ (b : List Int) (v n : Int) (hv : 0 ≤ v ∧ v ≤ 18446744073709551615) (hb : b.length ≤ 140737488351232) : Ev (fun k => octets_Put.f k b v n) (putOf b v n) := by
  unfold octets_Put.f putOf
  by_cases hn : n < 1 ∨ 8 < n
  · rw [if_pos hn]
    refine Ev.congr (f := fun _ => some ([], 1)) (fun k => ?_) (Ev.now _)
    rw [octets_PutAll.f, sized_, Option.bind_some, decide_eq_false (by omega), if_neg (by decide), Option.bind_some]
  · rw [if_neg hn]
    obtain ⟨m, rfl⟩ : ∃ m : Nat, n = (m : Int) := ⟨n.toNat, by omega⟩
    have h := putAll_ b m [v] (by omega) (by simpa using hv) (by simp) (by simp; omega)
    refine Ev.bind h ?_
    simp only [putAllOf, Int.toNat_natCast]
    by_cases hf : v < 256 ^ m
    · simp only [if_pos hf]
      exact Ev.now _
    · simp only [if_neg hf]
      exact Ev.now _
theorem PutText_ (b s : List Int) (hb : b.length + s.length ≤ 140737488355000) : Ev (fun k => octets_PutText.f k b s) (putTextOf b s) := by
  unfold octets_PutText.f putTextOf
  by_cases hs : 16777216 < s.length
  · rw [if_pos hs]
    exact Ev.congr (f := fun _ => some ([], 2)) (fun k => by rw [if_pos (by omega)]) (Ev.now _)
  · rw [if_neg hs]
    refine Ev.congr (f := fun k => (octets_put.f k b (s.length : Int) ((4 : Nat) : Int)).bind fun t => if t.length + s.length < 140737488355328 then some (t ++ s, 0) else none) (fun k => ?_) ?_
    · rw [if_neg (by omega), clone_ b (by omega), Option.bind_some, u64_in _ (by omega) (by omega)]
      rfl
    · refine Ev.bind (put_ b _ 4 (by omega) (by omega)) ?_
      refine Ev.congr (f := fun _ => some (b ++ le (s.length : Int) 4 ++ s, 0)) (fun k => ?_) (Ev.now _)
      rw [if_pos (by rw [List.length_append, le_length]; omega)]
end Go.Proofs.Ytcajcbeioilgmaa.Octets

/- The program's Get: what it answers. -/
namespace Go.Proofs.Ytcajcbeioilgmaa.Octets
open Go.RowKit Go.Proofs.Ytcajcbeioilgmaa.F Go.Proofs.Ytcajcbeioilgmaa.Bytes Go.Proofs.YtcajcbeioilgmaaW.PrintWords Go.Proofs.YtcajcbeioilgmaaW.PrintLast Go.Proofs.YtcajcbeioilgmaaW.PrintMore

theorem sizedG_ (n : Int) : octets_sized.f n = some (decide (1 ≤ n ∧ n ≤ 8)) := by
  unfold octets_sized.f
  by_cases h : n ≥ 1
  · rw [if_pos h]
    simp [h]
  · rw [if_neg h]
    simp [h]
theorem get_from (a n : Int) (y : List Int) (hy : isByte y) (hl : y.length ≤ 8) (d : Nat) : ∀ i : Nat, i + d = y.length →
    Ev (fun k => octets_Get.l0 k a n (val (y.take i)) y (y.length : Int) (i : Int)) (val y, wrap64 (a + n), 0) := by
  induction d with
  | zero =>
    intro i h
    refine Ev.step (f := fun _ => some (val y, wrap64 (a + n), 0)) (fun k => ?_) (Ev.now _)
    rw [octets_Get.l0, if_neg (by omega), List.take_of_length_le (by omega)]
  | succ d ih =>
    intro i h
    have hi : i < y.length := by omega
    have hc := rd_byte hy i hi
    have hr := val_range (isByte_take i hy)
    rw [List.length_take, Nat.min_eq_left (by omega)] at hr
    refine Ev.step (f := fun k => octets_Get.l0 k a n (val (y.take (i + 1))) y (y.length : Int) ((i + 1 : Nat) : Int)) (fun k => ?_) (ih (i + 1) (by omega))
    rw [octets_Get.l0, if_pos (by omega), if_pos (by omega), if_pos (by omega), eight i (by omega), if_pos (by omega), shl_eight _ i (by omega) hc, or_add _ _ i (by omega) hr.1 hr.2 hc, wrap_next i y.length hi (by omega),
      take_rd y i hi, val_append, List.length_take, Nat.min_eq_left (by omega), val, val]
    simp
theorem Get_ (b : List Int) (a n : Int) (hb : isByte b) (hl : b.length ≤ 140737488355328) : Ev (fun k => octets_Get.f k b a n) (getOf b a n) := by
  unfold octets_Get.f getOf
  rw [sizedG_]
  simp only [Option.bind_some]
  by_cases hn : n < 1 ∨ 8 < n
  · rw [if_pos hn, decide_eq_false (by omega)]
    exact Ev.now _
  · rw [if_neg hn, decide_eq_true (by omega)]
    simp only [if_true]
    by_cases h0 : a < 0
    · rw [if_pos (by omega)]
      refine Ev.congr (f := fun k => octets_Get.j0 k b a n true) (fun k => by rw [if_pos h0]) ?_
      refine Ev.step (f := fun _ => some (0, 0, 5)) (fun k => ?_) (Ev.now _)
      rw [octets_Get.j0, if_pos rfl]
    · refine Ev.congr (f := fun k => octets_Get.j0 k b a n (decide (a > (b.length : Int)))) (fun k => by rw [if_neg h0]) ?_
      by_cases h1 : a > (b.length : Int)
      · rw [if_pos (by omega), decide_eq_true h1]
        refine Ev.step (f := fun _ => some (0, 0, 5)) (fun k => ?_) (Ev.now _)
        rw [octets_Get.j0, if_pos rfl]
      · rw [if_neg (by omega), decide_eq_false h1]
        have hw : wrap64 ((b.length : Int) - a) = (b.length : Int) - a := wrap_in _ (by omega) (by omega)
        by_cases h2 : n > (b.length : Int) - a
        · rw [if_pos (by omega)]
          refine Ev.step (f := fun _ => some (0, 0, 10)) (fun k => ?_) (Ev.now _)
          rw [octets_Get.j0, if_neg (by decide), hw, if_pos h2]
        · rw [if_neg (by omega)]
          have hs : wrap64 (a + n) = a + n := wrap_in _ (by omega) (by omega)
          have hy : (b.take (a + n).toNat).drop a.toNat = (b.drop a.toNat).take n.toNat := by
            rw [List.take_drop]
            congr 2
            omega
          have hyl : ((b.drop a.toNat).take n.toNat).length ≤ 8 := by rw [List.length_take]; omega
          have h := get_from a n ((b.drop a.toNat).take n.toNat) (isByte_take _ (isByte_drop _ hb)) hyl (((b.drop a.toNat).take n.toNat).length) 0 (by omega)
          refine Ev.step (f := fun k => octets_Get.l0 k a n (val (((b.drop a.toNat).take n.toNat).take 0)) ((b.drop a.toNat).take n.toNat) (((b.drop a.toNat).take n.toNat).length : Int) ((0 : Nat) : Int)) (fun k => ?_) (hs ▸ h)
          rw [octets_Get.j0, if_neg (by decide), hw, if_neg h2, if_pos (by omega), hs, if_pos (by omega), if_pos (by omega), Option.bind_some, hy]
          rfl
end Go.Proofs.Ytcajcbeioilgmaa.Octets

/- The reference's Put, Get: what they answer. -/
namespace Go.Proofs.Ytcajcbeioilgmaa.Octets
open Go.RowKit Go.Proofs.Ytcajcbeioilgmaa.F Go.Proofs.Ytcajcbeioilgmaa.Bytes Go.Proofs.YtcajcbeioilgmaaW.PrintWords Go.Proofs.YtcajcbeioilgmaaW.PrintLast Go.Proofs.YtcajcbeioilgmaaW.PrintMore

theorem div_next (v : Int) (i : Nat) : v / 256 ^ i / 256 = v / 256 ^ (i + 1) := by
  rw [Int.pow_succ]
  exact Int.ediv_ediv_of_nonneg (Int.le_of_lt (pow_pos i))
theorem div_in (v : Int) (hv : 0 ≤ v ∧ v ≤ 18446744073709551615) (i : Nat) : 0 ≤ v / 256 ^ i ∧ v / 256 ^ i ≤ 18446744073709551615 :=
  ⟨Int.ediv_nonneg hv.1 (Int.le_of_lt (pow_pos i)), Int.le_trans (Int.ediv_le_self _ hv.1) hv.2⟩
theorem ref_fits_from (v : Int) (hv : 0 ≤ v ∧ v ≤ 18446744073709551615) (n : Nat) (hn : n ≤ 8) (d : Nat) : ∀ i : Nat, i + d = n →
    Ev (fun k => plinthref01_fits.l0 k (v / 256 ^ i) (n : Int) (i : Int)) (v / 256 ^ n == 0) := by
  induction d with
  | zero =>
    intro i h
    obtain rfl : i = n := by omega
    refine Ev.step (f := fun _ => some (v / 256 ^ i == 0)) (fun k => ?_) (Ev.now _)
    rw [plinthref01_fits.l0, if_neg (by omega)]
  | succ d ih =>
    intro i h
    have hq := div_in v hv i
    have hq2 := div_in v hv (i + 1)
    refine Ev.step (f := fun k => plinthref01_fits.l0 k (v / 256 ^ (i + 1)) (n : Int) ((i + 1 : Nat) : Int)) (fun k => ?_) (ih (i + 1) (by omega))
    rw [plinthref01_fits.l0, if_pos (by omega), Int.tdiv_eq_ediv_of_nonneg hq.1, div_next, u64_in _ hq2.1 hq2.2, wrap_next i n (by omega) (by omega)]
theorem div_zero_iff (v : Int) (hv : 0 ≤ v) (n : Nat) : v / 256 ^ n = 0 ↔ v < 256 ^ n := by
  constructor
  · intro h0
    have h1 := Int.emod_add_mul_ediv v (256 ^ n)
    have h2 := Int.emod_lt_of_pos v (pow_pos n)
    rw [h0, Int.mul_zero] at h1
    omega
  · intro h0
    exact Int.ediv_eq_zero_of_lt hv h0
theorem ref_fits (v : Int) (hv : 0 ≤ v ∧ v ≤ 18446744073709551615) (n : Nat) (hn : n ≤ 8) : Ev (fun k => plinthref01_fits.f k v (n : Int)) (decide (v < 256 ^ n)) := by
  have h := ref_fits_from v hv n hn n 0 (by omega)
  have e : decide (v < 256 ^ n) = (v / 256 ^ n == 0) := by
    have := div_zero_iff v hv.1 n
    by_cases h0 : v < 256 ^ n
    · rw [this.2 h0]
      simp [h0]
    · have h1 : ¬ v / 256 ^ n = 0 := fun z => h0 (this.1 z)
      simp [h1, h0]
  rw [e]
  refine Ev.congr (fun k => ?_) h
  rw [plinthref01_fits.f, Int.pow_zero, Int.ediv_one]
  rfl
theorem ref_put_from (v : Int) (hv : 0 ≤ v ∧ v ≤ 18446744073709551615) (n : Nat) (hn : n ≤ 8) (d : Nat) : ∀ (i : Nat) (b : List Int), i + d = n → (b ++ le v i).length + d < 140737488355328 →
    Ev (fun k => plinthref01_Put.l0 k (v / 256 ^ i) (n : Int) (b ++ le v i) (i : Int)) (b ++ le v n, 0) := by
  induction d with
  | zero =>
    intro i b h hb
    obtain rfl : i = n := by omega
    refine Ev.step (f := fun _ => some (b ++ le v i, 0)) (fun k => ?_) (Ev.now _)
    rw [plinthref01_Put.l0, if_neg (by omega)]
  | succ d ih =>
    intro i b h hb
    have hq := div_in v hv i
    have hq2 := div_in v hv (i + 1)
    refine Ev.step (f := fun k => plinthref01_Put.l0 k (v / 256 ^ (i + 1)) (n : Int) (b ++ le v (i + 1)) ((i + 1 : Nat) : Int)) (fun k => ?_) (ih (i + 1) b (by omega) ?_)
    · rw [plinthref01_Put.l0, if_pos (by omega), if_pos (by omega), Int.tdiv_eq_ediv_of_nonneg hq.1, Int.tmod_eq_emod_of_nonneg hq.1, div_next, u64_in _ hq2.1 hq2.2, wrap_next i n (by omega) (by omega), le_succ, List.append_assoc, Int.emod_emod_of_dvd _ (Int.dvd_refl 256)]
    · rw [List.length_append, le_length] at hb ⊢
      omega
theorem ref_Put (b : List Int) (v n : Int) (hv : 0 ≤ v ∧ v ≤ 18446744073709551615) (hb : b.length ≤ 140737488351232) : Ev (fun k => plinthref01_Put.f k b v n) (putOf b v n) := by
  unfold plinthref01_Put.f putOf
  by_cases hn : n < 1 ∨ 8 < n
  · rw [if_pos hn]
    refine Ev.congr (f := fun k => plinthref01_Put.j0 k b v n true) (fun k => ?_) (Ev.step (f := fun _ => some ([], 1)) (fun k => by rw [plinthref01_Put.j0, if_pos rfl]) (Ev.now _))
    by_cases h1 : n < 1
    · rw [if_pos h1]
    · rw [if_neg h1, decide_eq_true (by omega)]
  · rw [if_neg hn]
    obtain ⟨m, rfl⟩ : ∃ m : Nat, n = (m : Int) := ⟨n.toNat, by omega⟩
    refine Ev.congr (f := fun k => plinthref01_Put.j0 k b v (m : Int) false) (fun k => by rw [if_neg (by omega), decide_eq_false (by omega)]) ?_
    have hF := ref_fits v hv m (by omega)
    have h := ref_put_from v hv m (by omega) m 0 b (by omega) (by rw [le_zero, List.append_nil]; omega)
    refine Ev.step (f := fun k => (plinthref01_fits.f k v (m : Int)).bind fun t => if t = true then plinthref01_Put.l0 k v (m : Int) b 0 else some ([], 5)) (fun k => ?_) ?_
    · rw [plinthref01_Put.j0, if_neg (by decide)]
      simp only [Option.bind_some, List.nil_append, List.length_nil]
      rw [if_pos (by omega)]
    · refine Ev.bind hF ?_
      rw [Int.toNat_natCast]
      by_cases hf : v < 256 ^ m
      · simp only [hf, decide_true, if_true]
        rw [le_zero, List.append_nil, Int.pow_zero, Int.ediv_one] at h
        exact h
      · simp only [hf, decide_false, if_false, Bool.false_eq_true]
        exact Ev.now _
theorem ref_get_from (b : List Int) (a n : Int) (hb : isByte b) (x m : Nat) (hx : a = (x : Int)) (hm : m ≤ 8) (hl : x + m ≤ b.length) (hL : b.length ≤ 140737488355328) (d : Nat) : ∀ i : Nat, i + d = m → 
    Ev (fun k => plinthref01_Get.l0 k b a n (val (((b.drop x).take m).drop d)) ((d : Int) - 1)) (val ((b.drop x).take m), wrap64 (a + n), 0) := by
  induction d with
  | zero =>
    intro i h
    refine Ev.step (f := fun _ => some (val ((b.drop x).take m), wrap64 (a + n), 0)) (fun k => ?_) (Ev.now _)
    rw [plinthref01_Get.l0, if_neg (by omega)]
    rfl
  | succ d ih =>
    intro i h
    have hyl : ((b.drop x).take m).length = m := by rw [List.length_take, List.length_drop]; omega
    have hd : d < ((b.drop x).take m).length := by omega
    have hy : isByte ((b.drop x).take m) := isByte_take _ (isByte_drop _ hb)
    have hrd : rd b ((x + d : Nat) : Int) = rd ((b.drop x).take m) (d : Int) := by
      rw [rd_nat b (x + d) (by omega), rd_nat _ d hd, List.getElem_take, List.getElem_drop]
    have hc := rd_byte hy d hd
    have hr := val_range (isByte_drop (d + 1) hy)
    rw [List.length_drop, hyl] at hr
    have hp := pow_mono (show m - (d + 1) ≤ 7 by omega)
    have hv : val (((b.drop x).take m).drop (d + 1)) < 72057594037927936 := Int.lt_of_lt_of_le hr.2 hp
    have e1 : wrap64 (a + (((d + 1 : Nat) : Int) - 1)) = ((x + d : Nat) : Int) := by rw [wrap_in _ (by omega) (by omega)]; omega
    have e2 : wrap64 (((d + 1 : Nat) : Int) - 1 - 1) = (d : Int) - 1 := by rw [wrap_in _ (by omega) (by omega)]; omega
    refine Ev.step (f := fun k => plinthref01_Get.l0 k b a n (val (((b.drop x).take m).drop d)) ((d : Int) - 1)) (fun k => ?_) (ih (i + 1) (by omega))
    rw [plinthref01_Get.l0, if_pos (by omega), e1, e2, if_pos (by omega), if_pos (by omega), hrd, u64_in (val _ * 256) (by omega) (by omega), u64_in (rd _ _) (by omega) (by omega), u64_in _ (by omega) (by omega), drop_rd _ d hd, val]
    congr 1
    omega
theorem ref_Get (b : List Int) (a n : Int) (hb : isByte b) (hl : b.length ≤ 140737488355328) : Ev (fun k => plinthref01_Get.f k b a n) (getOf b a n) := by
  unfold plinthref01_Get.f getOf
  by_cases hn : n < 1 ∨ 8 < n
  · rw [if_pos hn]
    refine Ev.congr (f := fun k => plinthref01_Get.j0 k b a n true) (fun k => ?_) (Ev.step (f := fun _ => some (0, 0, 1)) (fun k => by rw [plinthref01_Get.j0, if_pos rfl]) (Ev.now _))
    by_cases h1 : n < 1
    · rw [if_pos h1]
    · rw [if_neg h1, decide_eq_true (by omega)]
  · rw [if_neg hn]
    refine Ev.congr (f := fun k => plinthref01_Get.j0 k b a n false) (fun k => by rw [if_neg (by omega), decide_eq_false (by omega)]) ?_
    by_cases h0 : a < 0 ∨ (b.length : Int) < a
    · rw [if_pos h0]
      refine Ev.step (f := fun k => plinthref01_Get.j1 k b a n true) (fun k => ?_) (Ev.step (f := fun _ => some (0, 0, 5)) (fun k => by rw [plinthref01_Get.j1, if_pos rfl]) (Ev.now _))
      rw [plinthref01_Get.j0, if_neg (by decide)]
      by_cases h1 : a < 0
      · rw [if_pos h1]
      · rw [if_neg h1, decide_eq_true (by omega)]
    · rw [if_neg h0]
      refine Ev.step (f := fun k => plinthref01_Get.j1 k b a n false) (fun k => by rw [plinthref01_Get.j0, if_neg (by decide), if_neg (by omega), decide_eq_false (by omega)]) ?_
      have hw : wrap64 ((b.length : Int) - a) = (b.length : Int) - a := wrap_in _ (by omega) (by omega)
      by_cases h2 : (b.length : Int) - a < n
      · rw [if_pos h2]
        refine Ev.step (f := fun _ => some (0, 0, 10)) (fun k => ?_) (Ev.now _)
        rw [plinthref01_Get.j1, if_neg (by decide), hw, if_pos h2]
      · rw [if_neg h2]
        have h := ref_get_from b a n hb a.toNat n.toNat (by omega) (by omega) (by omega) hl n.toNat 0 (by omega)
        rw [List.drop_of_length_le (by rw [List.length_take]; omega), wrap_in (a + n) (by omega) (by omega)] at h
        refine Ev.step (fun k => ?_) h
        rw [plinthref01_Get.j1, if_neg (by decide), hw, if_neg h2, wrap_in (n - 1) (by omega) (by omega)]
        show plinthref01_Get.l0 k b a n 0 (n - 1) = plinthref01_Get.l0 k b a n 0 _
        congr 1
        omega
end Go.Proofs.Ytcajcbeioilgmaa.Octets

/- The reference's PutText: what it answers. -/
namespace Go.Proofs.Ytcajcbeioilgmaa.Octets
open Go.RowKit Go.Proofs.Ytcajcbeioilgmaa.F Go.Proofs.Ytcajcbeioilgmaa.Bytes Go.Proofs.YtcajcbeioilgmaaW.PrintWords Go.Proofs.YtcajcbeioilgmaaW.PrintLast Go.Proofs.YtcajcbeioilgmaaW.PrintMore

theorem ref_PutText (b s : List Int) (hb : b.length + s.length ≤ 140737488355000) (hb2 : b.length ≤ 140737488351232) : Ev (fun k => plinthref01_PutText.f k b s) (putTextOf b s) := by
  unfold plinthref01_PutText.f putTextOf
  by_cases hs : 16777216 < s.length
  · rw [if_pos hs]
    exact Ev.congr (f := fun _ => some ([], 2)) (fun k => by rw [if_pos (by omega)]) (Ev.now _)
  · rw [if_neg hs]
    have h := ref_Put b (s.length : Int) 4 (by omega) hb2
    have hp : putOf b (s.length : Int) 4 = (b ++ le (s.length : Int) 4, 0) := by
      unfold putOf
      rw [if_neg (by omega), if_pos (show (s.length : Int) < 256 ^ (4 : Int).toNat from by
        have : (256 : Int) ^ (4 : Int).toNat = 4294967296 := rfl
        omega)]
      rfl
    rw [hp] at h
    refine Ev.congr (f := fun k => (plinthref01_Put.f k b (s.length : Int) 4).bind fun t => if t.1.length + s.length < 140737488355328 then some (t.1 ++ s, 0) else none) (fun k => by rw [if_neg (by omega), u64_in _ (by omega) (by omega)]) ?_
    refine Ev.bind h ?_
    refine Ev.congr (f := fun _ => some (b ++ le (s.length : Int) 4 ++ s, 0)) (fun k => ?_) (Ev.now _)
    dsimp only
    rw [if_pos (by rw [List.length_append, le_length]; omega)]
end Go.Proofs.Ytcajcbeioilgmaa.Octets

/- Frames in plain words: a frame's bytes, and the frame at a place of any bytes. -/
namespace Go.Proofs.Ytcajcbeioilgmaa.Frame
open Go.RowKit Go.Proofs.Ytcajcbeioilgmaa.F Go.Proofs.Ytcajcbeioilgmaa.Bytes Go.Proofs.Ytcajcbeioilgmaa.Octets Go.Proofs.Ytcajcbeioilgmaa.Crc Go.Proofs.YtcajcbeioilgmaaW.PrintWords Go.Proofs.YtcajcbeioilgmaaW.PrintLast Go.Proofs.YtcajcbeioilgmaaW.PrintMore

def headed (kind serial : Int) (body : List Int) : List Int := [80, 76, kind, 0] ++ le serial 8 ++ le (body.length : Int) 4 ++ body
def frameOf (kind serial : Int) (body : List Int) : List Int := sealed (headed kind serial body)
def writeOf (kind serial : Int) (body : List Int) : List Int × Int := if 16777216 < body.length then ([], 2) else (frameOf kind serial body, 0)
def lengthOf (x : List Int) : Int := val ((x.drop 12).take 4)
def readAt (x : List Int) (a : Int) : Int × Int × List Int × Int × Int :=
  if x.length < 16 then (0, 0, [], 0, 10)
  else if ¬ (rd x 0 = 80 ∧ rd x 1 = 76 ∧ rd x 3 = 0 ∧ lengthOf x ≤ 16777216) then (0, 0, [], 0, 30)
  else if x.length < (lengthOf x).toNat + 20 then (0, 0, [], 0, 10)
  else if (opened (x.take ((lengthOf x).toNat + 20))).2 ≠ 0 then (0, 0, [], 0, 31)
  else (rd x 2, val ((x.drop 4).take 8), (x.drop 16).take (lengthOf x).toNat, a + ((lengthOf x).toNat + 20 : Nat), 0)
def readOf (b : List Int) (a : Int) : Int × Int × List Int × Int × Int :=
  if a < 0 ∨ (b.length : Int) < a then (0, 0, [], 0, 5) else readAt (b.drop a.toNat) a
theorem headed_length (kind serial : Int) (body : List Int) : (headed kind serial body).length = body.length + 16 := by
  simp [headed, le_length]
  omega
theorem frameOf_length (kind serial : Int) (body : List Int) : (frameOf kind serial body).length = body.length + 20 := by
  rw [frameOf, sealed_length, headed_length]
theorem isByte_four {kind : Int} (h : 0 ≤ kind ∧ kind ≤ 255) : isByte [80, 76, kind, 0] := by
  intro x hx
  simp only [List.mem_cons, List.not_mem_nil, or_false] at hx
  rcases hx with rfl | rfl | rfl | rfl <;> omega
theorem isByte_headed {kind serial : Int} {body : List Int} (h : 0 ≤ kind ∧ kind ≤ 255) (hb : isByte body) : isByte (headed kind serial body) :=
  isByte_append (isByte_append (isByte_append (isByte_four h) (le_byte _ _)) (le_byte _ _)) hb
theorem isByte_frameOf {kind serial : Int} {body : List Int} (h : 0 ≤ kind ∧ kind ≤ 255) (hb : isByte body) : isByte (frameOf kind serial body) := isByte_sealed (isByte_headed h hb)
theorem isByte_writeOf {kind serial : Int} {body : List Int} (h : 0 ≤ kind ∧ kind ≤ 255) (hb : isByte body) : isByte (writeOf kind serial body).1 := by
  unfold writeOf
  split
  · exact isByte_nil
  · exact isByte_frameOf h hb
theorem isByte_readAt {x : List Int} (a : Int) (hx : isByte x) : isByte (readAt x a).2.2.1 := by
  unfold readAt
  split
  · exact isByte_nil
  split
  · exact isByte_nil
  split
  · exact isByte_nil
  split
  · exact isByte_nil
  · exact isByte_take _ (isByte_drop _ hx)
theorem isByte_readOf {b : List Int} (a : Int) (hb : isByte b) : isByte (readOf b a).2.2.1 := by
  unfold readOf
  split
  · exact isByte_nil
  · exact isByte_readAt a (isByte_drop _ hb)
theorem lengthOf_range {x : List Int} (hx : isByte x) : 0 ≤ lengthOf x ∧ lengthOf x < 4294967296 := by
  have h := val_range (isByte_take 4 (isByte_drop 12 hx))
  unfold lengthOf
  refine ⟨h.1, Int.lt_of_lt_of_le h.2 ?_⟩
  have hl : ((x.drop 12).take 4).length ≤ 4 := by rw [List.length_take]; omega
  exact pow_mono hl
theorem get_length {x : List Int} (h : 16 ≤ x.length) : getOf x 12 4 = (lengthOf x, 16, 0) := by
  unfold getOf lengthOf
  rw [if_neg (by omega), if_neg (by omega), if_neg (by omega)]
  rfl
theorem get_serial {x : List Int} (h : 16 ≤ x.length) : getOf x 4 8 = (val ((x.drop 4).take 8), 12, 0) := by
  unfold getOf
  rw [if_neg (by omega), if_neg (by omega), if_neg (by omega)]
  rfl
/-- What is opened is the front of it. -/
theorem opened_front {l : List Int} (h : (opened l).2 = 0) : 4 ≤ l.length ∧ (opened l).1 = l.take (l.length - 4) := by
  unfold opened at h ⊢
  split at h
  · cases h
  · rename_i h4
    rw [if_neg h4]
    split at h
    · rename_i he
      rw [if_pos he]
      exact ⟨by omega, rfl⟩
    · cases h
theorem rd_take (l : List Int) (n i : Nat) (h : i < n) : rd (l.take n) (i : Int) = rd l (i : Int) := by
  rw [getD_rd, getD_rd]
  simp only [List.getD_eq_getElem?_getD, List.getElem?_take, if_pos h]
theorem drop_take_take (x : List Int) (n i m : Nat) (h : i + m ≤ n) : ((x.take n).drop i).take m = (x.drop i).take m := by
  rw [List.drop_take, List.take_take, Nat.min_eq_left (by omega)]
/-- A frame in any surroundings is read there. -/
theorem val_le_in (v : Int) (n : Nat) (h : 0 ≤ v ∧ v < 256 ^ n) : val (le v n) = v := by
  rw [val_le, Int.emod_eq_of_lt h.1 h.2]
theorem front16 (kind serial : Int) (body z : List Int) : (headed kind serial body ++ z) = [80, 76, kind, 0] ++ (le serial 8 ++ (le (body.length : Int) 4 ++ (body ++ z))) := by
  simp [headed]
theorem lengthOf_frame (kind serial : Int) (body z : List Int) (hl : body.length ≤ 16777216) : lengthOf (frameOf kind serial body ++ z) = body.length := by
  unfold lengthOf frameOf Crc.sealed
  rw [List.append_assoc, front16]
  have h : (([80, 76, kind, 0] ++ (le serial 8 ++ (le (body.length : Int) 4 ++ (body ++ (le32 (I (sum 0#32 (headed kind serial body))) ++ z))))).drop 12) = (le (body.length : Int) 4 ++ (body ++ (le32 (I (sum 0#32 (headed kind serial body))) ++ z))) := by
    rw [← List.append_assoc, List.drop_append, List.drop_of_length_le (by simp [le_length]), List.nil_append]
    simp [le_length]
  rw [h, List.take_append, List.take_of_length_le (by rw [le_length]; omega), le_length, Nat.sub_self, List.take_zero, List.append_nil]
  have hp : (256 : Int) ^ 4 = 4294967296 := by decide
  exact val_le_in _ 4 ⟨by omega, by omega⟩
theorem read_frame (kind serial : Int) (body z : List Int) (hs : 0 ≤ serial ∧ serial ≤ 18446744073709551615) (hl : body.length ≤ 16777216) (a : Int) :
    readAt (frameOf kind serial body ++ z) a = (kind, serial, body, a + (body.length + 20 : Nat), 0) := by
  have hn := lengthOf_frame kind serial body z hl
  have hL : (frameOf kind serial body ++ z).length = body.length + 20 + z.length := by rw [List.length_append, frameOf_length]
  have e : frameOf kind serial body ++ z = [80, 76, kind, 0] ++ (le serial 8 ++ (le (body.length : Int) 4 ++ (body ++ (le32 (I (sum 0#32 (headed kind serial body))) ++ z)))) := by
    rw [frameOf, Crc.sealed, List.append_assoc, front16]
  have r0 : rd (frameOf kind serial body ++ z) 0 = 80 := by rw [e]; rfl
  have r1 : rd (frameOf kind serial body ++ z) 1 = 76 := by rw [e]; rfl
  have r2 : rd (frameOf kind serial body ++ z) 2 = kind := by rw [e]; rfl
  have r3 : rd (frameOf kind serial body ++ z) 3 = 0 := by rw [e]; rfl
  have ht : (frameOf kind serial body ++ z).take (body.length + 20) = frameOf kind serial body := by
    rw [List.take_append, List.take_of_length_le (by rw [frameOf_length]; omega), frameOf_length, Nat.sub_self, List.take_zero, List.append_nil]
  have hd4 : ((frameOf kind serial body ++ z).drop 4).take 8 = le serial 8 := by
    rw [e, List.drop_left' (by rfl), List.take_left' (by rw [le_length])]
  have hd16 : ((frameOf kind serial body ++ z).drop 16).take body.length = body := by
    rw [e]
    have h : (([80, 76, kind, 0] ++ (le serial 8 ++ (le (body.length : Int) 4 ++ (body ++ (le32 (I (sum 0#32 (headed kind serial body))) ++ z))))).drop 16) = body ++ (le32 (I (sum 0#32 (headed kind serial body))) ++ z) := by
      rw [← List.append_assoc, ← List.append_assoc]
      exact List.drop_left' (by simp [le_length])
    rw [h, List.take_left' rfl]
  have hp : (256 : Int) ^ 8 = 18446744073709551616 := by decide
  unfold readAt
  rw [hn, Int.toNat_natCast, if_neg (by omega), if_neg (by simp [r0, r1, r3]; omega), if_neg (by omega), ht, frameOf, opened_sealed, if_neg (by simp), ← frameOf, r2, hd4, hd16, val_le_in _ 8 ⟨hs.1, by omega⟩]
end Go.Proofs.Ytcajcbeioilgmaa.Frame

/- The program's Read: what it answers. -/
namespace Go.Proofs.Ytcajcbeioilgmaa.Frame
open Go.RowKit Go.Proofs.Ytcajcbeioilgmaa.F Go.Proofs.Ytcajcbeioilgmaa.Bytes Go.Proofs.Ytcajcbeioilgmaa.Octets Go.Proofs.Ytcajcbeioilgmaa.Crc Go.Proofs.YtcajcbeioilgmaaW.PrintWords Go.Proofs.YtcajcbeioilgmaaW.PrintLast Go.Proofs.YtcajcbeioilgmaaW.PrintMore

theorem Read_ (b : List Int) (a : Int) (hb : isByte b) (hl : b.length ≤ 140737488350000) : Ev (fun k => frame_Read.f k b a) (readOf b a) := by
  unfold frame_Read.f readOf
  by_cases h0 : a < 0
  · simp only [if_pos h0, if_pos (show a < 0 ∨ (b.length : Int) < a from .inl h0)]
    refine Ev.step (fun k => frame_Read.j0.eq_2 _ _ _ k) ?_
    simp only [if_true]
    exact Ev.now _
  · simp only [if_neg h0]
    by_cases h1 : a > (b.length : Int)
    · simp only [decide_eq_true h1, if_pos (show a < 0 ∨ (b.length : Int) < a from .inr h1)]
      refine Ev.step (fun k => frame_Read.j0.eq_2 _ _ _ k) ?_
      simp only [if_true]
      exact Ev.now _
    · have hn : ¬ (a < 0 ∨ (b.length : Int) < a) := by omega
      simp only [decide_eq_false h1, if_neg hn]
      refine Ev.step (fun k => frame_Read.j0.eq_2 _ _ _ k) ?_
      simp only [Bool.false_eq_true, if_false, if_pos (show 0 ≤ a by omega), if_pos (show a ≤ (b.length : Int) by omega), Option.bind_some]
      have hbx : isByte (b.drop a.toNat) := isByte_drop _ hb
      have hlx : (b.drop a.toNat).length ≤ 140737488350000 := by rw [List.length_drop]; omega
      have hax : a + (b.drop a.toNat).length ≤ 140737488350000 := by rw [List.length_drop]; omega
      generalize b.drop a.toNat = x at hbx hlx hax ⊢
      unfold readAt
      by_cases h2 : x.length < 16
      · simp only [if_pos h2, if_pos (show (x.length : Int) < 16 by omega)]
        exact Ev.now _
      · simp only [if_neg h2, if_neg (show ¬ (x.length : Int) < 16 by omega)]
        have hg := Get_ x 12 4 hbx (by omega)
        rw [get_length (by omega)] at hg
        refine Ev.bind hg ?_
        have hr := lengthOf_range hbx
        simp only [if_pos (show (0 : Int) < x.length by omega), if_pos (show (1 : Int) < x.length by omega), if_pos (show (3 : Int) < x.length by omega)]
        by_cases c : rd x 0 = 80 ∧ rd x 1 = 76 ∧ rd x 3 = 0 ∧ lengthOf x ≤ 16777216
        · obtain ⟨c0, c1, c3, c4⟩ := c
          simp only [if_neg (not_not_intro (And.intro c0 (And.intro c1 (And.intro c3 c4)))), if_pos c0, if_pos c1, if_pos c3, decide_eq_false (show ¬ lengthOf x > 16777216 by omega)]
          refine Ev.step (fun k => frame_Read.j1.eq_2 _ _ _ _ k) ?_
          obtain ⟨n, hn⟩ : ∃ n : Nat, lengthOf x = n := ⟨(lengthOf x).toNat, by omega⟩
          rw [hn] at c4
          have w1 : wrap64 (wrap64 (n : Int) + 20) = ((n + 20 : Nat) : Int) := by unfold wrap64; omega
          simp only [Bool.false_eq_true, if_false, hn, w1, Int.toNat_natCast]
          by_cases c5 : x.length < n + 20
          · simp only [if_pos c5, if_pos (show (x.length : Int) < ((n + 20 : Nat) : Int) by omega)]
            exact Ev.now _
          · simp only [if_neg c5, if_neg (show ¬ (x.length : Int) < ((n + 20 : Nat) : Int) by omega), if_pos (show (0 : Int) ≤ ((n + 20 : Nat) : Int) by omega), if_pos (show ((n + 20 : Nat) : Int) ≤ (x.length : Int) by omega)]
            have hlen : (x.take (n + 20)).length = n + 20 := by rw [List.length_take]; omega
            refine Ev.bind (open_ (x.take (n + 20)) (by omega)) ?_
            by_cases c6 : (opened (x.take (n + 20))).2 = 0
            · have hf := (opened_front c6).2
              rw [hlen, List.take_take, Nat.min_eq_left (by omega), show n + 20 - 4 = n + 16 by omega] at hf
              have hlen2 : (x.take (n + 16)).length = n + 16 := by rw [List.length_take]; omega
              simp only [if_pos c6, if_neg (not_not_intro c6), hf]
              have hg := Get_ (x.take (n + 16)) 4 8 (isByte_take _ hbx) (by omega)
              rw [get_serial (by omega), drop_take_take x (n + 16) 4 8 (by omega)] at hg
              refine Ev.bind hg ?_
              simp only [hlen2, if_pos (show (2 : Int) < ((n + 16 : Nat) : Int) by omega), if_pos (show (16 : Int) ≤ ((n + 16 : Nat) : Int) by omega)]
              have e1 : rd (x.take (n + 16)) 2 = rd x 2 := rd_take x (n + 16) 2 (by omega)
              have e3 : (x.take (n + 16)).drop (16 : Int).toNat = (x.drop 16).take n := by
                show (x.take (n + 16)).drop 16 = _
                rw [List.drop_take]
                congr 1
              rw [e1, e3, wrap_in _ (by omega) (by omega)]
              exact Ev.now _
            · simp only [if_neg c6, if_pos (show (opened (x.take (n + 20))).2 ≠ 0 from c6)]
              exact Ev.now _
        · simp only [if_pos c]
          have key : Ev (fun k => frame_Read.j1 k a x (lengthOf x) true) (0, 0, [], 0, 30) := by
            refine Ev.step (fun k => frame_Read.j1.eq_2 _ _ _ _ k) ?_
            simp only [if_true]
            exact Ev.now _
          by_cases c0 : rd x 0 = 80
          · simp only [if_pos c0]
            by_cases c1 : rd x 1 = 76
            · simp only [if_pos c1]
              by_cases c3 : rd x 3 = 0
              · have c4 : lengthOf x > 16777216 := by
                  apply Int.not_le.1
                  exact fun h => c ⟨c0, c1, c3, h⟩
                simp only [if_pos c3, decide_eq_true c4]
                exact key
              · simp only [if_neg c3]
                exact key
            · simp only [if_neg c1]
              exact key
          · simp only [if_neg c0]
            exact key
end Go.Proofs.Ytcajcbeioilgmaa.Frame

/- The reference's Read: what it answers. -/
namespace Go.Proofs.Ytcajcbeioilgmaa.Frame
open Go.RowKit Go.Proofs.Ytcajcbeioilgmaa.F Go.Proofs.Ytcajcbeioilgmaa.Bytes Go.Proofs.Ytcajcbeioilgmaa.Octets Go.Proofs.Ytcajcbeioilgmaa.Crc Go.Proofs.YtcajcbeioilgmaaW.PrintWords Go.Proofs.YtcajcbeioilgmaaW.PrintLast Go.Proofs.YtcajcbeioilgmaaW.PrintMore

theorem w20 (n : Nat) (c : (n : Int) ≤ 16777216) : wrap64 (20 + (n : Int)) = ((n + 20 : Nat) : Int) := by
  rw [wrap_in _ (by omega) (by omega)]; omega
theorem w16 (n : Nat) (c : (n : Int) ≤ 16777216) : wrap64 (16 + (n : Int)) = ((n + 16 : Nat) : Int) := by
  rw [wrap_in _ (by omega) (by omega)]; omega
theorem w64 (n : Nat) (c : (n : Int) ≤ 16777216) : wrap64 (n : Int) = (n : Int) := wrap_in _ (by omega) (by omega)
theorem wL (n : Nat) (c : n ≤ 140737488350000) : wrap64 ((n : Int) - 20) = (n : Int) - 20 := wrap_in _ (by omega) (by omega)
theorem ref_Read (b : List Int) (a : Int) (hb : isByte b) (hl : b.length ≤ 140737488350000) : Ev (fun k => plinthref03_Read.f k b a) (readOf b a) := by
  unfold plinthref03_Read.f readOf
  by_cases h0 : a < 0
  · simp only [if_pos h0, if_pos (show a < 0 ∨ (b.length : Int) < a from .inl h0)]
    refine Ev.step (fun k => plinthref03_Read.j0.eq_2 _ _ _ k) ?_
    simp only [if_true]
    exact Ev.now _
  · simp only [if_neg h0]
    by_cases h1 : a > (b.length : Int)
    · simp only [decide_eq_true h1, if_pos (show a < 0 ∨ (b.length : Int) < a from .inr h1)]
      refine Ev.step (fun k => plinthref03_Read.j0.eq_2 _ _ _ k) ?_
      simp only [if_true]
      exact Ev.now _
    · have hn : ¬ (a < 0 ∨ (b.length : Int) < a) := by omega
      simp only [decide_eq_false h1, if_neg hn]
      refine Ev.step (fun k => plinthref03_Read.j0.eq_2 _ _ _ k) ?_
      simp only [Bool.false_eq_true, if_false, if_pos (show 0 ≤ a by omega), if_pos (show a ≤ (b.length : Int) by omega), Option.bind_some]
      have hbx : isByte (b.drop a.toNat) := isByte_drop _ hb
      have hlx : (b.drop a.toNat).length ≤ 140737488350000 := by rw [List.length_drop]; omega
      have hax : a + (b.drop a.toNat).length ≤ 140737488350000 := by rw [List.length_drop]; omega
      generalize b.drop a.toNat = x at hbx hlx hax ⊢
      unfold readAt
      by_cases h2 : x.length < 16
      · simp only [if_pos h2, if_pos (show (x.length : Int) < 16 by omega)]
        exact Ev.now _
      · simp only [if_neg h2, if_neg (show ¬ (x.length : Int) < 16 by omega)]
        have hg := ref_Get x 12 4 hbx (by omega)
        rw [get_length (by omega)] at hg
        refine Ev.bind hg ?_
        have hr := lengthOf_range hbx
        simp only [if_pos (show (0 : Int) < x.length by omega), if_pos (show (1 : Int) < x.length by omega), if_pos (show (3 : Int) < x.length by omega)]
        by_cases c : rd x 0 = 80 ∧ rd x 1 = 76 ∧ rd x 3 = 0 ∧ lengthOf x ≤ 16777216
        · obtain ⟨c0, c1, c3, c4⟩ := c
          simp only [if_neg (not_not_intro (And.intro c0 (And.intro c1 (And.intro c3 c4)))), if_pos c0, if_pos c1, if_pos c3, decide_eq_false (show ¬ lengthOf x > 16777216 by omega)]
          refine Ev.step (fun k => plinthref03_Read.j1.eq_2 _ _ _ _ k) ?_
          obtain ⟨n, hn⟩ : ∃ n : Nat, lengthOf x = n := ⟨(lengthOf x).toNat, by omega⟩
          rw [hn] at c4
          simp only [Bool.false_eq_true, if_false, hn, w64 n c4, w20 n c4, w16 n c4, wL x.length hlx, Int.toNat_natCast]
          by_cases c5 : x.length < n + 20
          · simp only [if_pos c5, if_pos (show (x.length : Int) - 20 < (n : Int) by omega)]
            exact Ev.now _
          · simp only [if_neg c5, if_neg (show ¬ (x.length : Int) - 20 < (n : Int) by omega), if_pos (show (0 : Int) ≤ ((n + 20 : Nat) : Int) by omega), if_pos (show ((n + 20 : Nat) : Int) ≤ (x.length : Int) by omega)]
            have hlen : (x.take (n + 20)).length = n + 20 := by rw [List.length_take]; omega
            refine Ev.bind (ref_open (x.take (n + 20)) (by omega) (isByte_take _ hbx)) ?_
            by_cases c6 : (opened (x.take (n + 20))).2 = 0
            · simp only [if_pos c6, if_neg (not_not_intro c6)]
              have hg := ref_Get x 4 8 hbx (by omega)
              rw [get_serial (by omega)] at hg
              refine Ev.bind hg ?_
              have hlen3 : ((x.take (n + 16)).drop 16).length = n := by rw [List.length_drop, List.length_take]; omega
              simp only [if_pos (show (2 : Int) < (x.length : Int) by omega), Option.bind_some, if_pos (show (16 : Int) ≤ ((n + 16 : Nat) : Int) by omega), if_pos (show ((n + 16 : Nat) : Int) ≤ (x.length : Int) by omega), hlen3, List.length_nil, List.nil_append, if_pos (show 0 + n < 140737488355328 by omega)]
              have e3 : (x.take (n + 16)).drop 16 = (x.drop 16).take n := by
                rw [List.drop_take]
                congr 1
              rw [e3, wrap_in (a + 20) (by omega) (by omega), wrap_in _ (by omega) (by omega), show a + 20 + (n : Int) = a + ((n + 20 : Nat) : Int) by omega]
              exact Ev.now _
            · simp only [if_neg c6, if_pos (show (opened (x.take (n + 20))).2 ≠ 0 from c6)]
              exact Ev.now _
        · simp only [if_pos c]
          have key : Ev (fun k => plinthref03_Read.j1 k a x (lengthOf x) true) (0, 0, [], 0, 30) := by
            refine Ev.step (fun k => plinthref03_Read.j1.eq_2 _ _ _ _ k) ?_
            simp only [if_true]
            exact Ev.now _
          by_cases c0 : rd x 0 = 80
          · simp only [if_pos c0]
            by_cases c1 : rd x 1 = 76
            · simp only [if_pos c1]
              by_cases c3 : rd x 3 = 0
              · have c4 : lengthOf x > 16777216 := by
                  apply Int.not_le.1
                  exact fun h => c ⟨c0, c1, c3, h⟩
                simp only [if_pos c3, decide_eq_true c4]
                exact key
              · simp only [if_neg c3]
                exact key
            · simp only [if_neg c1]
              exact key
          · simp only [if_neg c0]
            exact key
end Go.Proofs.Ytcajcbeioilgmaa.Frame

/- The program's Write, and a frame there and back. -/
namespace Go.Proofs.Ytcajcbeioilgmaa.Frame
open Go.RowKit Go.Proofs.Ytcajcbeioilgmaa.F Go.Proofs.Ytcajcbeioilgmaa.Bytes Go.Proofs.Ytcajcbeioilgmaa.Octets Go.Proofs.Ytcajcbeioilgmaa.Crc Go.Proofs.YtcajcbeioilgmaaW.PrintWords Go.Proofs.YtcajcbeioilgmaaW.PrintLast Go.Proofs.YtcajcbeioilgmaaW.PrintMore

theorem put_serial (kind serial : Int) (hs : 0 ≤ serial ∧ serial ≤ 18446744073709551615) : putOf [80, 76, kind, 0] serial 8 = ([80, 76, kind, 0] ++ le serial 8, 0) := by
  have hp : (256 : Int) ^ 8 = 18446744073709551616 := by decide
  unfold putOf
  rw [if_neg (by omega), if_pos (by show serial < 256 ^ 8; omega)]
  rfl
theorem Write_ (kind serial : Int) (body : List Int) (hs : 0 ≤ serial ∧ serial ≤ 18446744073709551615) (hl : body.length ≤ 140737488350000) : Ev (fun k => frame_Write.f k kind serial body) (writeOf kind serial body) := by
  have h1 := Put_ [80, 76, kind, 0] serial 8 hs (by simp)
  rw [put_serial kind serial hs] at h1
  have h2 := PutText_ ([80, 76, kind, 0] ++ le serial 8) body (by simp [le_length]; omega)
  unfold frame_Write.f writeOf
  refine Ev.bind h1 ?_
  refine Ev.bind h2 ?_
  unfold putTextOf
  by_cases h : 16777216 < body.length
  · simp only [if_pos h]
    exact Ev.congr (f := fun _ => some ([], 2)) (fun k => by simp) (Ev.now _)
  · simp only [if_neg h, if_true]
    refine Ev.bind (seal_ _ (by simp [le_length]; omega)) ?_
    exact Ev.now _
theorem cut_some (l : List Int) : ∃ c, plinthlaw03_cut.f l = some c ∧ c.length ≤ 16384 ∧ c = l.take 16384 := by
  unfold plinthlaw03_cut.f
  by_cases h : (l.length : Int) > 16384
  · rw [if_pos h, if_pos (by omega)]
    exact ⟨_, rfl, by rw [List.length_take]; omega, rfl⟩
  · rw [if_neg h]
    exact ⟨_, rfl, by omega, (List.take_of_length_le (by omega)).symm⟩
theorem awake : Ev (fun k => plinthlaw03_awake.f k) true := by
  have hb : isByte [97, 98] := by unfold isByte; decide
  have h1 := Write_ 7 1 [97, 98] (by omega) (by simp)
  rw [show writeOf 7 1 [97, 98] = (frameOf 7 1 [97, 98], 0) from by unfold writeOf; rw [if_neg (by simp)]] at h1
  have h2 := Read_ (frameOf 7 1 [97, 98]) 0 (isByte_frameOf (by omega) hb) (by rw [frameOf_length]; simp)
  have h3 := read_frame 7 1 [97, 98] [] (by omega) (by simp) 0
  rw [List.append_nil] at h3
  rw [show readOf (frameOf 7 1 [97, 98]) 0 = (7, 1, [97, 98], 22, 0) from by unfold readOf; rw [if_neg (by omega)]; exact h3] at h2
  have hL := frameOf_length 7 1 [97, 98]
  unfold plinthlaw03_awake.f
  refine Ev.bind h1 ?_
  refine Ev.bind h2 ?_
  have ht : (strOfNums [97, 98]).toList = ([97, 98] : List UInt8) := by
    rw [toList_data]
    rfl
  simp only [ht, if_true, hL, List.length_cons, List.length_nil, beq_self_eq_true]
  exact Ev.now _
end Go.Proofs.Ytcajcbeioilgmaa.Frame

/- The reference's Write; which frames are the same. -/
namespace Go.Proofs.Ytcajcbeioilgmaa.Frame
open Go.RowKit Go.Proofs.Ytcajcbeioilgmaa.F Go.Proofs.Ytcajcbeioilgmaa.Bytes Go.Proofs.Ytcajcbeioilgmaa.Octets Go.Proofs.Ytcajcbeioilgmaa.Crc Go.Proofs.YtcajcbeioilgmaaW.PrintWords Go.Proofs.YtcajcbeioilgmaaW.PrintLast Go.Proofs.YtcajcbeioilgmaaW.PrintMore

theorem ref_Write (kind serial : Int) (body : List Int) (hs : 0 ≤ serial ∧ serial ≤ 18446744073709551615) (hl : body.length ≤ 140737488350000) : Ev (fun k => plinthref03_Write.f k kind serial body) (writeOf kind serial body) := by
  unfold plinthref03_Write.f writeOf
  by_cases h : 16777216 < body.length
  · simp only [if_pos h, if_pos (show (body.length : Int) > 16777216 by omega)]
    exact Ev.now _
  · simp only [if_neg h, if_neg (show ¬ (body.length : Int) > 16777216 by omega)]
    have h1 := ref_Put [80, 76, kind, 0] serial 8 hs (by simp)
    rw [put_serial kind serial hs] at h1
    have h2 := ref_PutText ([80, 76, kind, 0] ++ le serial 8) body (by simp [le_length]; omega) (by simp [le_length])
    unfold putTextOf at h2
    rw [if_neg h] at h2
    refine Ev.bind h1 ?_
    refine Ev.bind h2 ?_
    refine Ev.bind (ref_seal _ (by simp [le_length]; omega)) ?_
    exact Ev.now _
theorem ref_same_self (a b : Int) (l : List Int) : plinthref03_Same.f a b l a b l = some true := by
  unfold plinthref03_Same.f
  rw [if_pos rfl, if_pos rfl]
  simp
/-- The program's Same and the reference's are one. -/
theorem same_same (a b : Int) (l : List Int) (a' b' : Int) (l' : List Int) : ∃ r, frame_Same.f a b l a' b' l' = some r ∧ plinthref03_Same.f a b l a' b' l' = some r := by
  unfold frame_Same.f plinthref03_Same.f bytes_Equal.f
  by_cases h : a = a'
  · rw [if_pos h, if_pos h]
    by_cases h' : b = b'
    · rw [if_pos h', if_pos h']
      exact ⟨_, rfl, rfl⟩
    · rw [if_neg h', if_neg h']
      exact ⟨_, rfl, rfl⟩
  · rw [if_neg h, if_neg h]
    exact ⟨_, rfl, rfl⟩
theorem same_self (a b : Int) (l : List Int) : frame_Same.f a b l a b l = some true := by
  unfold frame_Same.f bytes_Equal.f
  rw [if_pos rfl, if_pos rfl]
  simp
end Go.Proofs.Ytcajcbeioilgmaa.Frame
