/- Sealing and opening: a row of bytes with its sum behind it; what is opened; that four bytes side by side that are others are seen. -/
import Derived.Test.YtcajcbeioilgmaaCrc
import Derived.Test.YtcajcbeioilgmaaFx4
import Derived.Test.YtcajcbeioilgmaaFx3
import Derived.Test.YtcajcbeioilgmaaFx5
import Derived.Test.YtcajcbeioilgmaaFx6
namespace Go.Proofs.Ytcajcbeioilgmaa.Crc
open Go.RowKit Go.Proofs.Ytcajcbeioilgmaa.F Go.Proofs.YtcajcbeioilgmaaW.PrintWords Go.Proofs.YtcajcbeioilgmaaW.PrintLast Go.Proofs.YtcajcbeioilgmaaW.PrintMore

def le32 (v : Int) : List Int := [v % 256, (v / 256) % 256, (v / 65536) % 256, (v / 16777216) % 256]
def sealed (b : List Int) : List Int := b ++ le32 (I (sum 0#32 b))
theorem sealed_length (b : List Int) : (sealed b).length = b.length + 4 := by simp [sealed, le32]
def opened (l : List Int) : List Int × Int := if l.length < 4 then ([], 10) else if sealed (l.take (l.length - 4)) = l then (l.take (l.length - 4), 0) else ([], 31)

theorem clone_some (l : List Int) (h : l.length < 140737488355328) : slices_Clone_byte_byte.f l = some l := by
  unfold slices_Clone_byte_byte.f
  simp only [Option.bind_some, List.nil_append, List.length_nil]
  rw [if_pos (by omega)]
theorem seal_low (b : List Int) (v : Int) (h : b.length < 140737488355000) : crc_seal.f b v = some (b ++ le32 v) := by
  unfold crc_seal.f
  rw [clone_some b (by omega)]
  simp only [Option.bind_some, List.length_cons, List.length_nil]
  rw [if_pos (by omega)]
  rfl
theorem seal_ (b : List Int) (h : b.length < 140737488355000) : Ev (fun k => crc_Seal.f k b) (sealed b) := by
  have ha := all [b] (by simp) (by simp; omega)
  have hs : sumAll [b] = sum 0#32 b := rfl
  unfold crc_Seal.f
  refine Ev.bind ha ?_
  simp only [seal_low b _ h, Option.bind_some, hs]
  exact Ev.now _
theorem equal_from (a b : List Int) (he : a.length = b.length) (hl : a.length ≤ 9223372036854775807) (d : Nat) : ∀ i : Nat, i + d = a.length →
    Ev (fun k => slices_Equal_byte_byte.l0 k a b (a.length : Int) (i : Int)) (decide (a.drop i = b.drop i)) := by
  induction d with
  | zero =>
    intro i h
    refine Ev.step (f := fun _ => some (decide (a.drop i = b.drop i))) (fun k => ?_) (Ev.now _)
    rw [slices_Equal_byte_byte.l0, if_neg (by omega), List.drop_of_length_le (by omega), List.drop_of_length_le (by omega)]
    simp
  | succ d ih =>
    intro i h
    have hi : i < a.length := by omega
    have hj : i < b.length := by omega
    have ha := drop_cons a i hi
    have hb := drop_cons b i hj
    by_cases hc : rd a (i : Int) = rd b (i : Int)
    · refine Ev.step (f := fun k => slices_Equal_byte_byte.l0 k a b (a.length : Int) ((i + 1 : Nat) : Int)) (fun k => ?_) ?_
      · rw [slices_Equal_byte_byte.l0, if_pos (by omega), if_pos (by omega), if_pos (by omega), if_pos (by omega), if_pos hc, wrap_one i a.length hi hl]
      · have := ih (i + 1) (by omega)
        have hd : decide (a.drop i = b.drop i) = decide (a.drop (i + 1) = b.drop (i + 1)) := by
          rw [ha, hb, hc]
          simp
        rw [hd]
        exact this
    · refine Ev.step (f := fun _ => some (decide (a.drop i = b.drop i))) (fun k => ?_) (Ev.now _)
      rw [slices_Equal_byte_byte.l0, if_pos (by omega), if_pos (by omega), if_pos (by omega), if_pos (by omega), if_neg hc, ha, hb]
      simp [hc]
theorem equal_ (a b : List Int) (hl : a.length ≤ 9223372036854775807) : Ev (fun k => slices_Equal_byte_byte.f k a b) (decide (a = b)) := by
  by_cases h : a.length = b.length
  · refine Ev.congr (fun k => ?_) (equal_from a b h hl a.length 0 (by omega))
    rw [slices_Equal_byte_byte.f, if_pos (by omega)]
    rfl
  · refine Ev.congr (f := fun _ => some (decide (a = b))) (fun k => ?_) (Ev.now _)
    rw [slices_Equal_byte_byte.f, if_neg (by omega)]
    have : a ≠ b := fun e => h (by rw [e])
    simp [this]
theorem less4 (n : Nat) (h : 4 ≤ n) (hn : n < 140737488355000) : wrap64 ((n : Int) - 4) = ((n - 4 : Nat) : Int) := by
  unfold wrap64
  omega
theorem open_ (l : List Int) (h : l.length < 140737488355000) : Ev (fun k => crc_Open.f k l) (opened l) := by
  unfold opened
  by_cases h4 : l.length < 4
  · rw [if_pos h4]
    refine Ev.congr (f := fun _ => some ([], 10)) (fun k => ?_) (Ev.now _)
    rw [crc_Open.f, if_pos (by omega)]
  · rw [if_neg h4]
    have hb : (l.take (l.length - 4)).length < 140737488355000 := by rw [List.length_take]; omega
    have hS := seal_ (l.take (l.length - 4)) hb
    have hE := equal_ (sealed (l.take (l.length - 4))) l (by rw [sealed_length]; omega)
    refine Ev.congr (f := fun k => (crc_Seal.f k (l.take (l.length - 4))).bind fun t => (slices_Equal_byte_byte.f k t l).bind fun t2 => if t2 = true then some (l.take (l.length - 4), 0) else some ([], 31)) (fun k => ?_) ?_
    · rw [crc_Open.f, if_neg (by omega), less4 l.length (by omega) h, if_pos (by omega), if_pos (by omega)]
      simp only [Option.bind_some, Int.toNat_natCast, clone_some (l.take (l.length - 4)) (by omega)]
    · refine Ev.bind hS (Ev.bind hE ?_)
      by_cases hc : sealed (l.take (l.length - 4)) = l
      · simp only [hc, decide_true, if_true]
        exact Ev.now _
      · simp only [hc, decide_false, if_false, Bool.false_eq_true]
        exact Ev.now _

/-! ### four bytes as 32 bits -/
def comp (c0 c1 c2 c3 : BitVec 32) : BitVec 32 := c0 ^^^ (c1 <<< 8) ^^^ (c2 <<< 16) ^^^ (c3 <<< 24)
theorem steps_up (n : Nat) (c : BitVec 32) (hn : n + 8 ≤ 32) (h : ∀ i, 8 ≤ i → c.getLsbD i = false) : steps n (c <<< n) = c := by
  rw [steps_shift n (c <<< n)]
  · apply BitVec.eq_of_getLsbD_eq
    intro i hi
    rw [BitVec.getLsbD_ushiftRight, BitVec.getLsbD_shiftLeft]
    by_cases h8 : i < 8
    · have h1 : n + i < 32 := by omega
      have h2 : ¬ n + i < n := by omega
      simp [h1, h2]
    · simp [h i (by omega)]
  · intro i hi
    rw [BitVec.getLsbD_shiftLeft]
    simp [hi]
theorem raw4 (r c0 c1 c2 c3 : BitVec 32) (h1 : ∀ i, 8 ≤ i → c1.getLsbD i = false) (h2 : ∀ i, 8 ≤ i → c2.getLsbD i = false) (h3 : ∀ i, 8 ≤ i → c3.getLsbD i = false) :
    steps 8 (steps 8 (steps 8 (steps 8 (r ^^^ c0) ^^^ c1) ^^^ c2) ^^^ c3) = steps 32 (r ^^^ comp c0 c1 c2 c3) := by
  have e3 : steps 32 (c3 <<< 24) = steps 8 c3 := (steps_add 24 8 (c3 <<< 24)).trans (by rw [steps_up 24 c3 (by omega) h3])
  have e2 : steps 32 (c2 <<< 16) = steps 16 c2 := (steps_add 16 16 (c2 <<< 16)).trans (by rw [steps_up 16 c2 (by omega) h2])
  have e1 : steps 32 (c1 <<< 8) = steps 24 c1 := (steps_add 8 24 (c1 <<< 8)).trans (by rw [steps_up 8 c1 (by omega) h1])
  have a2 : ∀ s, steps 8 (steps 8 s) = steps 16 s := fun s => (steps_add 8 8 s).symm
  have a3 : ∀ s, steps 8 (steps 16 s) = steps 24 s := fun s => (steps_add 16 8 s).symm
  have a4 : ∀ s, steps 8 (steps 24 s) = steps 32 s := fun s => (steps_add 24 8 s).symm
  unfold comp
  simp only [steps_xor, e1, e2, e3, a2, a3, a4]
  simp only [BitVec.xor_assoc]
theorem byte_high (c : Int) (h0 : 0 ≤ c) (h1 : c ≤ 255) : ∀ i, 8 ≤ i → (BitVec.ofInt 32 c).getLsbD i = false := by
  intro i hi
  rw [BitVec.getLsbD, BitVec.toNat_ofInt]
  have hlt : (c % ((2 ^ 32 : Nat) : Int)).toNat < 2 ^ 8 := by omega
  exact Nat.testBit_lt_two_pow (Nat.lt_of_lt_of_le hlt (Nat.pow_le_pow_right (by decide) hi))
def comp4 (c0 c1 c2 c3 : Int) : BitVec 32 := comp (BitVec.ofInt 32 c0) (BitVec.ofInt 32 c1) (BitVec.ofInt 32 c2) (BitVec.ofInt 32 c3)
theorem raw_four (r : BitVec 32) (c0 c1 c2 c3 : Int) (h1 : 0 ≤ c1 ∧ c1 ≤ 255) (h2 : 0 ≤ c2 ∧ c2 ≤ 255) (h3 : 0 ≤ c3 ∧ c3 ≤ 255) : raw r [c0, c1, c2, c3] = steps 32 (r ^^^ comp4 c0 c1 c2 c3) := by
  rw [raw_cons, raw_cons, raw_cons, raw_cons, raw_nil]
  exact raw4 r _ _ _ _ (byte_high c1 h1.1 h1.2) (byte_high c2 h2.1 h2.2) (byte_high c3 h3.1 h3.2)
theorem I_mod256 (s : BitVec 32) : BitVec.ofInt 32 (I s % 256) = s &&& 255#32 := by
  apply BitVec.eq_of_toNat_eq
  rw [BitVec.toNat_ofInt, BitVec.toNat_and, show (255#32).toNat = 2 ^ 8 - 1 from rfl, Nat.and_two_pow_sub_one_eq_mod]
  unfold I
  have := s.isLt
  omega
theorem low255 : ∀ i, (255#32).getLsbD i = decide (i < 8) := by
  intro i
  by_cases h : i < 32
  · revert i
    decide
  · rw [BitVec.getLsbD_of_ge _ _ (by omega)]
    simp
    omega
theorem comp_self (t : BitVec 32) : comp (t &&& 255#32) ((t >>> 8) &&& 255#32) ((t >>> 16) &&& 255#32) ((t >>> 24) &&& 255#32) = t := by
  apply BitVec.eq_of_getLsbD_eq
  intro i hi
  unfold comp
  simp only [BitVec.getLsbD_xor, BitVec.getLsbD_shiftLeft, BitVec.getLsbD_and, BitVec.getLsbD_ushiftRight, low255, hi, decide_true, Bool.true_and]
  by_cases h1 : i < 8
  · simp [h1, show i < 16 by omega, show i < 24 by omega]
  · by_cases h2 : i < 16
    · simp [h1, h2, show i < 24 by omega, show i - 8 < 8 by omega, show 8 + (i - 8) = i by omega]
    · by_cases h3 : i < 24
      · simp [h1, h2, h3, show ¬ i - 8 < 8 by omega, show i - 16 < 8 by omega, show 16 + (i - 16) = i by omega]
      · simp [h1, h2, h3, show ¬ i - 8 < 8 by omega, show ¬ i - 16 < 8 by omega, show i - 24 < 8 by omega, show 24 + (i - 24) = i by omega]
theorem comp4_le (t : BitVec 32) : comp4 (I t % 256) ((I t / 256) % 256) ((I t / 65536) % 256) ((I t / 16777216) % 256) = t := by
  unfold comp4
  rw [I_shift t 8 256 (by decide), I_shift t 16 65536 (by decide), I_shift t 24 16777216 (by decide), I_mod256, I_mod256, I_mod256, I_mod256]
  exact comp_self t
theorem raw_le32 (r t : BitVec 32) : raw r (le32 (I t)) = steps 32 (r ^^^ t) := by
  unfold le32
  rw [raw_four r _ _ _ _ (by omega) (by omega) (by omega), comp4_le]
theorem xor_not (x : BitVec 32) : x ^^^ ~~~x = BitVec.allOnes 32 := by
  apply BitVec.eq_of_getLsbD_eq
  intro i hi
  simp only [BitVec.getLsbD_xor, BitVec.getLsbD_not, BitVec.getLsbD_allOnes, hi, decide_true, Bool.true_and]
  cases x.getLsbD i <;> rfl
/-- What a sealed row comes to, whatever it holds. -/
theorem raw_sealed (b : List Int) : raw (~~~(0#32)) (sealed b) = steps 32 (BitVec.allOnes 32) := by
  unfold sealed
  rw [raw_append, raw_le32]
  unfold sum
  rw [xor_not]
theorem step_zero {y : BitVec 32} (h : step y = 0#32) : y = 0#32 := by
  unfold step at h
  have h31 : ((y >>> 1) ^^^ (if y.getLsbD 0 then poly else 0#32)).getLsbD 31 = false := by rw [h]; rfl
  rw [BitVec.getLsbD_xor, BitVec.getLsbD_ushiftRight, BitVec.getLsbD_of_ge y (1 + 31) (by omega)] at h31
  cases hl : y.getLsbD 0 with
  | true =>
    rw [hl] at h31
    exact absurd h31 (by decide)
  | false =>
    rw [hl] at h
    simp only [Bool.false_eq_true, if_false, BitVec.xor_zero] at h
    apply BitVec.eq_of_getLsbD_eq
    intro i hi
    rcases i with _ | i
    · rw [hl]; rfl
    · have : (y >>> 1).getLsbD i = (0#32).getLsbD i := by rw [h]
      rw [BitVec.getLsbD_ushiftRight] at this
      rw [Nat.add_comm]
      simpa using this
theorem step_inj {a b : BitVec 32} (h : step a = step b) : a = b := by
  have h1 : step (a ^^^ b) = 0#32 := by rw [step_xor, h, BitVec.xor_self]
  exact BitVec.xor_eq_zero_iff.1 (step_zero h1)
theorem steps_inj (n : Nat) : ∀ {a b : BitVec 32}, steps n a = steps n b → a = b := by
  induction n with
  | zero => intro a b h; exact h
  | succ n ih => intro a b h; exact step_inj (ih h)
theorem xor_left {a b c : BitVec 32} (h : a ^^^ b = a ^^^ c) : b = c := by
  have := congrArg (fun x => a ^^^ x) h
  simpa [← BitVec.xor_assoc] using this
theorem xor_right {a b c : BitVec 32} (h : a ^^^ c = b ^^^ c) : a = b := by
  rw [BitVec.xor_comm a, BitVec.xor_comm b] at h
  exact xor_left h
theorem raw_inj (l : List Int) : ∀ {a b : BitVec 32}, raw a l = raw b l → a = b := by
  induction l with
  | nil => intro a b h; exact h
  | cons c l ih =>
    intro a b h
    rw [raw_cons, raw_cons] at h
    exact xor_right (steps_inj 8 (ih h))
/-- Four bytes side by side that are others: no sealed row any more. -/
theorem spoilt_not (b p z : List Int) (c0 c1 c2 c3 e0 e1 e2 e3 : Int) (hs : sealed b = p ++ [c0, c1, c2, c3] ++ z)
    (hc1 : 0 ≤ c1 ∧ c1 ≤ 255) (hc2 : 0 ≤ c2 ∧ c2 ≤ 255) (hc3 : 0 ≤ c3 ∧ c3 ≤ 255) (he1 : 0 ≤ e1 ∧ e1 ≤ 255) (he2 : 0 ≤ e2 ∧ e2 ≤ 255) (he3 : 0 ≤ e3 ∧ e3 ≤ 255)
    (hne : comp4 c0 c1 c2 c3 ≠ comp4 e0 e1 e2 e3) (d : List Int) : sealed d ≠ p ++ [e0, e1, e2, e3] ++ z := by
  intro hd
  have h1 := raw_sealed b
  have h2 := raw_sealed d
  rw [hs, raw_append, raw_append, raw_four _ _ _ _ _ hc1 hc2 hc3] at h1
  rw [hd, raw_append, raw_append, raw_four _ _ _ _ _ he1 he2 he3, ← h1] at h2
  exact hne (xor_left (steps_inj 32 (raw_inj z h2))).symm
end Go.Proofs.Ytcajcbeioilgmaa.Crc
