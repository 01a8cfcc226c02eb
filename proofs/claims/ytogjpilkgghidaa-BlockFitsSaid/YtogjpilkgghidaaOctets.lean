/- Numbers and texts as bytes, in plain words: the bytes of a number, the number of bytes, what is put and what is got. -/
import Derived.Laws.BitsAllLaws
import Derived.Laws.BitsLemmas
import Derived.Test.YtogjpilkgghidaaBytes
import Derived.Test.YtogjpilkgghidaaWMore
import Derived.Test.YtogjpilkgghidaaWWords
namespace Go.Proofs.Ytogjpilkgghidaa.Octets
open Go.RowKit Go.Proofs.Ytogjpilkgghidaa.Bytes Go.Proofs.YtogjpilkgghidaaW.PrintWords Go.Proofs.YtogjpilkgghidaaW.PrintLast Go.Proofs.YtogjpilkgghidaaW.PrintMore

/-! ### lists and numbers -/
theorem rd_nat (l : List Int) (i : Nat) (h : i < l.length) : rd l (i : Int) = l[i] := by
  simp [rd, h]
theorem drop_rd (l : List Int) (i : Nat) (h : i < l.length) : l.drop i = rd l (i : Int) :: l.drop (i + 1) := by
  rw [rd_nat l i h, List.drop_eq_getElem_cons h]
theorem take_rd (l : List Int) (i : Nat) (h : i < l.length) : l.take (i + 1) = l.take i ++ [rd l (i : Int)] := by
  rw [rd_nat l i h, List.take_succ_eq_append_getElem h]
theorem rd_byte {l : List Int} (hb : isByte l) (i : Nat) (h : i < l.length) : 0 ≤ rd l (i : Int) ∧ rd l (i : Int) ≤ 255 := by
  rw [rd_nat l i h]
  exact hb _ (List.getElem_mem h)
theorem wrap_next (i n : Nat) (h : i < n) (hn : n ≤ 9223372036854775807) : wrap64 ((i : Int) + 1) = ((i + 1 : Nat) : Int) := by
  unfold wrap64
  omega
theorem wrap_in (x : Int) (h0 : -9223372036854775808 ≤ x) (h1 : x ≤ 9223372036854775807) : wrap64 x = x := by
  unfold wrap64
  omega
theorem u64_in (x : Int) (h0 : 0 ≤ x) (h1 : x ≤ 18446744073709551615) : IntKind.u64.wrap x = x := by
  rw [IntKind.wrap_u64]
  omega
theorem eight (i : Nat) (h : i ≤ 8) : IntKind.u64.wrap (wrap64 (8 * (i : Int))) = ((8 * i : Nat) : Int) := by
  rw [wrap_in _ (by omega) (by omega), u64_in _ (by omega) (by omega)]
  omega
theorem pow256 (i : Nat) : (2 : Int) ^ (8 * i) = 256 ^ i := by
  rw [Int.pow_mul]
  rfl
theorem pow_pos (i : Nat) : (0 : Int) < 256 ^ i := Int.pow_pos (by decide)
theorem shr_eight (v : Int) (i : Nat) (h : i ≤ 8) : shr .u64 v ((8 * i : Nat) : Int) = v / 256 ^ i := by
  unfold shr
  rw [Int.toNat_natCast, Nat.min_eq_left (by simp [IntKind.bits]; omega), pow256]

/-! ### the number's bytes -/
def le (v : Int) (n : Nat) : List Int := (List.range n).map fun i => v / 256 ^ i % 256
theorem le_zero (v : Int) : le v 0 = [] := rfl
theorem le_succ (v : Int) (n : Nat) : le v (n + 1) = le v n ++ [v / 256 ^ n % 256] := by simp [le, List.range_succ]
theorem le_length (v : Int) (n : Nat) : (le v n).length = n := by simp [le]
theorem le_byte (v : Int) (n : Nat) : isByte (le v n) := by
  intro x hx
  simp only [le, List.mem_map, List.mem_range] at hx
  obtain ⟨i, _, rfl⟩ := hx
  omega
def val : List Int → Int
  | [] => 0
  | c :: l => c + 256 * val l
theorem val_append (l m : List Int) : val (l ++ m) = val l + 256 ^ l.length * val m := by
  induction l with
  | nil => simp [val]
  | cons c l ih =>
    rw [List.cons_append, val, val, ih, List.length_cons, Int.pow_succ, Int.mul_add, Int.mul_comm (256 ^ l.length) 256, Int.mul_assoc]
    omega
theorem val_range {l : List Int} (h : isByte l) : 0 ≤ val l ∧ val l < 256 ^ l.length := by
  induction l with
  | nil => simp [val]
  | cons c l ih =>
    have hc := h c (by simp)
    have hl := ih (fun x hx => h x (by simp [hx]))
    rw [val, List.length_cons, Int.pow_succ]
    omega
theorem val_le (v : Int) (n : Nat) : val (le v n) = v % 256 ^ n := by
  induction n with
  | zero => rw [le_zero, val, Int.pow_zero]; omega
  | succ n ih =>
    rw [le_succ, val_append, ih, le_length, val, val, Int.pow_succ]
    have h1 := Int.emod_add_mul_ediv v (256 ^ n)
    have h2 := Int.emod_add_mul_ediv v (256 ^ n * 256)
    have h3 : v / 256 ^ n / 256 = v / (256 ^ n * 256) := Int.ediv_ediv_of_nonneg (Int.le_of_lt (pow_pos n))
    have h4 := Int.emod_add_mul_ediv (v / 256 ^ n) 256
    rw [h3] at h4
    generalize v / (256 ^ n * 256) = q at *
    generalize (256 : Int) ^ n = p at *
    have h5 : p * (v / p) = p * (v / p % 256) + p * (256 * q) := by rw [← Int.mul_add, h4]
    rw [Int.mul_assoc] at h2
    simp only [Int.mul_zero, Int.add_zero]
    omega
theorem or_comm (k : IntKind) (x y : Int) : Go.bits .or k x y = Go.bits .or k y x := by
  unfold Go.bits
  simp only [BitVec.or_comm]
theorem wraps_u64 (n : Int) (h0 : 0 ≤ n) (h1 : n < 2 ^ 64) : IntKind.u64.wrap n = n := by
  rw [IntKind.wrap_u64]
  omega
theorem or_add (a c : Int) (i : Nat) (hi : i < 8) (ha0 : 0 ≤ a) (ha : a < 256 ^ i) (hc : 0 ≤ c ∧ c ≤ 255) : Go.bits .or .u64 a (c * 256 ^ i) = a + 256 ^ i * c := by
  rw [or_comm]
  have h : i = 0 ∨ i = 1 ∨ i = 2 ∨ i = 3 ∨ i = 4 ∨ i = 5 ∨ i = 6 ∨ i = 7 := by omega
  rcases h with rfl | rfl | rfl | rfl | rfl | rfl | rfl | rfl
  · rw [bits_join .u64 64 (by decide) wraps_u64 0 _ _ (by omega) (by omega) (by omega) ha0 (by omega) (by omega)]; omega
  · rw [bits_join .u64 64 (by decide) wraps_u64 8 _ _ (by omega) (by omega) (by omega) ha0 (by omega) (by omega)]; omega
  · rw [bits_join .u64 64 (by decide) wraps_u64 16 _ _ (by omega) (by omega) (by omega) ha0 (by omega) (by omega)]; omega
  · rw [bits_join .u64 64 (by decide) wraps_u64 24 _ _ (by omega) (by omega) (by omega) ha0 (by omega) (by omega)]; omega
  · rw [bits_join .u64 64 (by decide) wraps_u64 32 _ _ (by omega) (by omega) (by omega) ha0 (by omega) (by omega)]; omega
  · rw [bits_join .u64 64 (by decide) wraps_u64 40 _ _ (by omega) (by omega) (by omega) ha0 (by omega) (by omega)]; omega
  · rw [bits_join .u64 64 (by decide) wraps_u64 48 _ _ (by omega) (by omega) (by omega) ha0 (by omega) (by omega)]; omega
  · rw [bits_join .u64 64 (by decide) wraps_u64 56 _ _ (by omega) (by omega) (by omega) ha0 (by omega) (by omega)]; omega
theorem pow_mono {i j : Nat} (h : i ≤ j) : (256 : Int) ^ i ≤ 256 ^ j := by
  obtain ⟨d, rfl⟩ := Nat.exists_eq_add_of_le h
  rw [Int.pow_add]
  have h1 := pow_pos i
  have h2 := pow_pos d
  have := Int.mul_le_mul_of_nonneg_left (show (1 : Int) ≤ 256 ^ d by omega) (Int.le_of_lt h1)
  omega
theorem shl_eight (c : Int) (i : Nat) (hi : i < 8) (hc : 0 ≤ c ∧ c ≤ 255) : shl .u64 (IntKind.u64.wrap c) ((8 * i : Nat) : Int) = c * 256 ^ i := by
  unfold shl
  rw [Int.toNat_natCast, Nat.min_eq_left (by simp [IntKind.bits]; omega), pow256, u64_in c (by omega) (by omega)]
  have h1 := pow_pos i
  have h2 := pow_mono (show i ≤ 7 by omega)
  have h3 : c * 256 ^ i ≤ 255 * 256 ^ 7 := Int.mul_le_mul hc.2 h2 (Int.le_of_lt h1) (by decide)
  have h4 : 0 ≤ c * 256 ^ i := Int.mul_nonneg hc.1 (Int.le_of_lt h1)
  exact u64_in _ h4 (by omega)

/-! ### what is put, what is got -/
def putAllOf (b : List Int) (n : Nat) : List Int → List Int × Int
  | [] => (b, 0)
  | v :: l => if v < 256 ^ n then putAllOf (b ++ le v n) n l else ([], 5)
def putOf (b : List Int) (v n : Int) : List Int × Int := if n < 1 ∨ 8 < n then ([], 1) else if v < 256 ^ n.toNat then (b ++ le v n.toNat, 0) else ([], 5)
def getOf (b : List Int) (a n : Int) : Int × Int × Int :=
  if n < 1 ∨ 8 < n then (0, 0, 1) else if a < 0 ∨ (b.length : Int) < a then (0, 0, 5) else if (b.length : Int) - a < n then (0, 0, 10) else (val ((b.drop a.toNat).take n.toNat), a + n, 0)
def putTextOf (b s : List Int) : List Int × Int := if 16777216 < s.length then ([], 2) else (b ++ le (s.length : Int) 4 ++ s, 0)
def getTextOf (b : List Int) (a : Int) : List Int × Int × Int :=
  let g := getOf b a 4
  if g.2.2 ≠ 0 then ([], 0, g.2.2) else if 16777216 < g.1 then ([], 0, 2) else if (b.length : Int) - g.2.1 < g.1 then ([], 0, 10) else ((b.drop g.2.1.toNat).take g.1.toNat, g.2.1 + g.1, 0)
theorem isByte_putOf {b : List Int} (h : isByte b) (v n : Int) : isByte (putOf b v n).1 := by
  unfold putOf
  split
  · exact isByte_nil
  · split
    · exact isByte_append h (le_byte _ _)
    · exact isByte_nil
theorem isByte_putTextOf {b s : List Int} (h : isByte b) (hs : isByte s) : isByte (putTextOf b s).1 := by
  unfold putTextOf
  split
  · exact isByte_nil
  · exact isByte_append (isByte_append h (le_byte _ _)) hs
theorem isByte_getTextOf {b : List Int} (h : isByte b) (a : Int) : isByte (getTextOf b a).1 := by
  unfold getTextOf
  dsimp only
  split
  · exact isByte_nil
  · split
    · exact isByte_nil
    · split
      · exact isByte_nil
      · exact isByte_take _ (isByte_drop _ h)
end Go.Proofs.Ytogjpilkgghidaa.Octets
