import Derived.OpenShut
import Derived.Laws.BytesArg
import Derived.Laws.BitsAllLaws
import Derived.Laws.BitsLemmas
import Derived.Test.YtogjpilkgghidaaWMore
import Derived.Test.YtogjpilkgghidaaWWords
import Derived.Test.YtogjpilkgghidaaFx7
import Derived.Test.YtogjpilkgghidaaFx8
import Derived.Test.YtogjpilkgghidaaFx10
import Derived.Test.YtogjpilkgghidaaFx11
import Derived.Test.YtogjpilkgghidaaFx1
import Derived.Test.YtogjpilkgghidaaFx4
import Derived.Test.YtogjpilkgghidaaFx2
import Derived.Test.YtogjpilkgghidaaFx5
import Derived.Test.YtogjpilkgghidaaFx24
import Derived.Test.YtogjpilkgghidaaFx25
import Derived.Test.YtogjpilkgghidaaFx3
import Derived.Test.YtogjpilkgghidaaFx6
import Derived.Test.YtogjpilkgghidaaFx12
import Derived.Test.YtogjpilkgghidaaFx13
import Derived.Test.YtogjpilkgghidaaFx9
import Derived.Test.YtogjpilkgghidaaFx14
import Derived.Test.YtogjpilkgghidaaFx15
/- Bytes as a text's bytes: two rows of bytes are alike just where their texts are. -/
namespace Go.Proofs.Ytogjpilkgghidaa.Bytes
open Go.RowKit

theorem loop_data (b : ByteArray) (d : Nat) : ∀ (i : Nat) (r : List UInt8), i + d = b.size → ByteArray.toList.loop b i r = r.reverse ++ b.data.toList.drop i := by
  induction d with
  | zero =>
    intro i r h
    rw [ByteArray.toList.loop, if_neg (by omega), List.drop_of_length_le (by simp; omega), List.append_nil]
  | succ d ih =>
    intro i r h
    have hi : i < b.data.toList.length := by simp; omega
    rw [ByteArray.toList.loop, if_pos (by omega), ih (i + 1) _ (by omega), List.drop_eq_getElem_cons hi]
    have hg : b.get! i = b.data.toList[i] := by
      have hs : i < b.data.size := by simpa using hi
      show b.data[i]! = b.data.toList[i]
      rw [getElem!_pos b.data i hs]
      rfl
    simp [hg]
theorem toList_data (b : ByteArray) : b.toList = b.data.toList := by
  unfold ByteArray.toList
  rw [loop_data b b.size 0 [] (by omega)]
  simp
def isByte (l : List Int) : Prop := ∀ x ∈ l, 0 ≤ x ∧ x ≤ 255
theorem isByte_of {l : List Int} (h : ∀ x ∈ l, (Lit.int .u8 x).wf = true) : isByte l := fun x hx => bounds_u8 (h x hx)
theorem text_iff {a b : List Int} (ha : isByte a) (hb : isByte b) : (strOfNums a).toList = (strOfNums b).toList ↔ a = b := by
  constructor
  · intro h
    rw [toList_data, toList_data] at h
    simp only [strOfNums] at h
    have inj : ∀ (a b : List Int), isByte a → isByte b → a.map (fun n => UInt8.ofNat n.toNat) = b.map (fun n => UInt8.ofNat n.toNat) → a = b := by
      intro a
      induction a with
      | nil => intro b _ _ h; cases b <;> simp_all
      | cons x a ih =>
        intro b ha hb h
        cases b with
        | nil => simp at h
        | cons y b =>
          simp only [List.map_cons, List.cons.injEq] at h
          have hx := ha x (by simp)
          have hy := hb y (by simp)
          have h1 := congrArg UInt8.toNat h.1
          rw [UInt8.toNat_ofNat', UInt8.toNat_ofNat'] at h1
          have : x = y := by omega
          rw [this, ih b (fun z hz => ha z (by simp [hz])) (fun z hz => hb z (by simp [hz])) h.2]
    exact inj a b ha hb h
  · intro h
    rw [h]
theorem isByte_append {a b : List Int} (ha : isByte a) (hb : isByte b) : isByte (a ++ b) := by
  intro x hx
  rcases List.mem_append.1 hx with h | h
  · exact ha x h
  · exact hb x h
theorem isByte_take {a : List Int} (n : Nat) (ha : isByte a) : isByte (a.take n) := fun x hx => ha x (List.mem_of_mem_take hx)
theorem isByte_drop {a : List Int} (n : Nat) (ha : isByte a) : isByte (a.drop n) := fun x hx => ha x (List.mem_of_mem_drop hx)
theorem isByte_nil : isByte [] := fun x hx => by cases hx
end Go.Proofs.Ytogjpilkgghidaa.Bytes

/- Numbers and texts as bytes, in plain words: the bytes of a number, the number of bytes, what is put and what is got. -/
namespace Go.Proofs.Ytogjpilkgghidaa.Octets
open Go.RowKit Go.Proofs.Ytogjpilkgghidaa.Bytes Go.Proofs.YtogjpilkgghidaaW.PrintWords Go.Proofs.YtogjpilkgghidaaW.PrintLast Go.Proofs.YtogjpilkgghidaaW.PrintMore

/-! ### lists and numbers -/
theorem rd_nat (l : List Int) (i : Nat) (h : i < l.length) : rd l (i : Int) = l[i] := by
  simp [rd, h]
theorem drop_rd (l : List Int) (i : Nat) (h : i < l.length) : l.drop i = rd l (i : Int) :: l.drop (i + 1) := by
  rw [rd_nat l i h, List.drop_eq_getElem_cons h]
theorem take_rd (l : List Int) (i : Nat) (h : i < l.length) : l.take (i + 1) = l.take i ++ [rd l (i : Int)] := by
  rw [rd_nat l i h, List.take_succ_eq_append_getElem h]
theorem rd_byte {l : List Int} (hb : isByte l) (i : Nat) (h : i < l.length) : 0 ≤ rd l (i : Int) ∧ rd l (i : Int) ≤ 255 := by
  rw [rd_nat l i h]
  exact hb _ (List.getElem_mem h)
theorem wrap_next (i n : Nat) (h : i < n) (hn : n ≤ 9223372036854775807) : wrap64 ((i : Int) + 1) = ((i + 1 : Nat) : Int) := by
  unfold wrap64
  omega
theorem wrap_in (x : Int) (h0 : -9223372036854775808 ≤ x) (h1 : x ≤ 9223372036854775807) : wrap64 x = x := by
  unfold wrap64
  omega
theorem u64_in (x : Int) (h0 : 0 ≤ x) (h1 : x ≤ 18446744073709551615) : IntKind.u64.wrap x = x := by
  rw [IntKind.wrap_u64]
  omega
theorem eight (i : Nat) (h : i ≤ 8) : IntKind.u64.wrap (wrap64 (8 * (i : Int))) = ((8 * i : Nat) : Int) := by
  rw [wrap_in _ (by omega) (by omega), u64_in _ (by omega) (by omega)]
  omega
theorem pow256 (i : Nat) : (2 : Int) ^ (8 * i) = 256 ^ i := by
  rw [Int.pow_mul]
  rfl
theorem pow_pos (i : Nat) : (0 : Int) < 256 ^ i := Int.pow_pos (by decide)
theorem shr_eight (v : Int) (i : Nat) (h : i ≤ 8) : shr .u64 v ((8 * i : Nat) : Int) = v / 256 ^ i := by
  unfold shr
  rw [Int.toNat_natCast, Nat.min_eq_left (by simp [IntKind.bits]; omega), pow256]

/-! ### the number's bytes -/
def le (v : Int) (n : Nat) : List Int := (List.range n).map fun i => v / 256 ^ i % 256
theorem le_zero (v : Int) : le v 0 = [] := rfl
theorem le_succ (v : Int) (n : Nat) : le v (n + 1) = le v n ++ [v / 256 ^ n % 256] := by simp [le, List.range_succ]
theorem le_length (v : Int) (n : Nat) : (le v n).length = n := by simp [le]
theorem le_byte (v : Int) (n : Nat) : isByte (le v n) := by
  intro x hx
  simp only [le, List.mem_map, List.mem_range] at hx
  obtain ⟨i, _, rfl⟩ := hx
  omega
def val : List Int → Int
  | [] => 0
  | c :: l => c + 256 * val l
theorem val_append (l m : List Int) : val (l ++ m) = val l + 256 ^ l.length * val m := by
  induction l with
  | nil => simp [val]
  | cons c l ih =>
    rw [List.cons_append, val, val, ih, List.length_cons, Int.pow_succ, Int.mul_add, Int.mul_comm (256 ^ l.length) 256, Int.mul_assoc]
    omega
theorem val_range {l : List Int} (h : isByte l) : 0 ≤ val l ∧ val l < 256 ^ l.length := by
  induction l with
  | nil => simp [val]
  | cons c l ih =>
    have hc := h c (by simp)
    have hl := ih (fun x hx => h x (by simp [hx]))
    rw [val, List.length_cons, Int.pow_succ]
    omega
theorem val_le (v : Int) (n : Nat) : val (le v n) = v % 256 ^ n := by
  induction n with
  | zero => rw [le_zero, val, Int.pow_zero]; omega
  | succ n ih =>
    rw [le_succ, val_append, ih, le_length, val, val, Int.pow_succ]
    have h1 := Int.emod_add_mul_ediv v (256 ^ n)
    have h2 := Int.emod_add_mul_ediv v (256 ^ n * 256)
    have h3 : v / 256 ^ n / 256 = v / (256 ^ n * 256) := Int.ediv_ediv_of_nonneg (Int.le_of_lt (pow_pos n))
    have h4 := Int.emod_add_mul_ediv (v / 256 ^ n) 256
    rw [h3] at h4
    generalize v / (256 ^ n * 256) = q at *
    generalize (256 : Int) ^ n = p at *
    have h5 : p * (v / p) = p * (v / p % 256) + p * (256 * q) := by rw [← Int.mul_add, h4]
    rw [Int.mul_assoc] at h2
    simp only [Int.mul_zero, Int.add_zero]
    omega
theorem or_comm (k : IntKind) (x y : Int) : Go.bits .or k x y = Go.bits .or k y x := by
  unfold Go.bits
  simp only [BitVec.or_comm]
theorem wraps_u64 (n : Int) (h0 : 0 ≤ n) (h1 : n < 2 ^ 64) : IntKind.u64.wrap n = n := by
  rw [IntKind.wrap_u64]
  omega
theorem or_add (a c : Int) (i : Nat) (hi : i < 8) (ha0 : 0 ≤ a) (ha : a < 256 ^ i) (hc : 0 ≤ c ∧ c ≤ 255) : Go.bits .or .u64 a (c * 256 ^ i) = a + 256 ^ i * c := by
  rw [or_comm]
  have h : i = 0 ∨ i = 1 ∨ i = 2 ∨ i = 3 ∨ i = 4 ∨ i = 5 ∨ i = 6 ∨ i = 7 := by omega
  rcases h with rfl | rfl | rfl | rfl | rfl | rfl | rfl | rfl
  · rw [bits_join .u64 64 (by decide) wraps_u64 0 _ _ (by omega) (by omega) (by omega) ha0 (by omega) (by omega)]; omega
  · rw [bits_join .u64 64 (by decide) wraps_u64 8 _ _ (by omega) (by omega) (by omega) ha0 (by omega) (by omega)]; omega
  · rw [bits_join .u64 64 (by decide) wraps_u64 16 _ _ (by omega) (by omega) (by omega) ha0 (by omega) (by omega)]; omega
  · rw [bits_join .u64 64 (by decide) wraps_u64 24 _ _ (by omega) (by omega) (by omega) ha0 (by omega) (by omega)]; omega
  · rw [bits_join .u64 64 (by decide) wraps_u64 32 _ _ (by omega) (by omega) (by omega) ha0 (by omega) (by omega)]; omega
  · rw [bits_join .u64 64 (by decide) wraps_u64 40 _ _ (by omega) (by omega) (by omega) ha0 (by omega) (by omega)]; omega
  · rw [bits_join .u64 64 (by decide) wraps_u64 48 _ _ (by omega) (by omega) (by omega) ha0 (by omega) (by omega)]; omega
  · rw [bits_join .u64 64 (by decide) wraps_u64 56 _ _ (by omega) (by omega) (by omega) ha0 (by omega) (by omega)]; omega
theorem pow_mono {i j : Nat} (h : i ≤ j) : (256 : Int) ^ i ≤ 256 ^ j := by
  obtain ⟨d, rfl⟩ := Nat.exists_eq_add_of_le h
  rw [Int.pow_add]
  have h1 := pow_pos i
  have h2 := pow_pos d
  have := Int.mul_le_mul_of_nonneg_left (show (1 : Int) ≤ 256 ^ d by omega) (Int.le_of_lt h1)
  omega
theorem shl_eight (c : Int) (i : Nat) (hi : i < 8) (hc : 0 ≤ c ∧ c ≤ 255) : shl .u64 (IntKind.u64.wrap c) ((8 * i : Nat) : Int) = c * 256 ^ i := by
  unfold shl
  rw [Int.toNat_natCast, Nat.min_eq_left (by simp [IntKind.bits]; omega), pow256, u64_in c (by omega) (by omega)]
  have h1 := pow_pos i
  have h2 := pow_mono (show i ≤ 7 by omega)
  have h3 : c * 256 ^ i ≤ 255 * 256 ^ 7 := Int.mul_le_mul hc.2 h2 (Int.le_of_lt h1) (by decide)
  have h4 : 0 ≤ c * 256 ^ i := Int.mul_nonneg hc.1 (Int.le_of_lt h1)
  exact u64_in _ h4 (by omega)

/-! ### what is put, what is got -/
def putAllOf (b : List Int) (n : Nat) : List Int → List Int × Int
  | [] => (b, 0)
  | v :: l => if v < 256 ^ n then putAllOf (b ++ le v n) n l else ([], 5)
def putOf (b : List Int) (v n : Int) : List Int × Int := if n < 1 ∨ 8 < n then ([], 1) else if v < 256 ^ n.toNat then (b ++ le v n.toNat, 0) else ([], 5)
def getOf (b : List Int) (a n : Int) : Int × Int × Int :=
  if n < 1 ∨ 8 < n then (0, 0, 1) else if a < 0 ∨ (b.length : Int) < a then (0, 0, 5) else if (b.length : Int) - a < n then (0, 0, 10) else (val ((b.drop a.toNat).take n.toNat), a + n, 0)
def putTextOf (b s : List Int) : List Int × Int := if 16777216 < s.length then ([], 2) else (b ++ le (s.length : Int) 4 ++ s, 0)
def getTextOf (b : List Int) (a : Int) : List Int × Int × Int :=
  let g := getOf b a 4
  if g.2.2 ≠ 0 then ([], 0, g.2.2) else if 16777216 < g.1 then ([], 0, 2) else if (b.length : Int) - g.2.1 < g.1 then ([], 0, 10) else ((b.drop g.2.1.toNat).take g.1.toNat, g.2.1 + g.1, 0)
theorem isByte_putOf {b : List Int} (h : isByte b) (v n : Int) : isByte (putOf b v n).1 := by
  unfold putOf
  split
  · exact isByte_nil
  · split
    · exact isByte_append h (le_byte _ _)
    · exact isByte_nil
theorem isByte_putTextOf {b s : List Int} (h : isByte b) (hs : isByte s) : isByte (putTextOf b s).1 := by
  unfold putTextOf
  split
  · exact isByte_nil
  · exact isByte_append (isByte_append h (le_byte _ _)) hs
theorem isByte_getTextOf {b : List Int} (h : isByte b) (a : Int) : isByte (getTextOf b a).1 := by
  unfold getTextOf
  dsimp only
  split
  · exact isByte_nil
  · split
    · exact isByte_nil
    · split
      · exact isByte_nil
      · exact isByte_take _ (isByte_drop _ h)
end Go.Proofs.Ytogjpilkgghidaa.Octets

/- The program's put, PutAll, Put, PutText: what they answer. -/
namespace Go.Proofs.Ytogjpilkgghidaa.Octets
open Go.RowKit Go.Proofs.Ytogjpilkgghidaa.F Go.Proofs.Ytogjpilkgghidaa.Bytes Go.Proofs.YtogjpilkgghidaaW.PrintWords Go.Proofs.YtogjpilkgghidaaW.PrintLast Go.Proofs.YtogjpilkgghidaaW.PrintMore

theorem clone_ (l : List Int) (h : l.length < 140737488355328) : slices_Clone_byte_byte.f l = some l := by
  unfold slices_Clone_byte_byte.f
  simp only [Option.bind_some, List.nil_append, List.length_nil]
  rw [if_pos (by omega)]
theorem sized_ (n : Int) : octets_sized.f n = some (decide (1 ≤ n ∧ n ≤ 8)) := by
  unfold octets_sized.f
  by_cases h : n ≥ 1
  · rw [if_pos h]
    simp [h]
  · rw [if_neg h]
    simp [h]
theorem fits_ (v : Int) (n : Nat) (hv : 0 ≤ v ∧ v ≤ 18446744073709551615) (hn : n ≤ 8) : octets_fits.f v (n : Int) = some (decide (v < 256 ^ n)) := by
  unfold octets_fits.f
  by_cases h : (n : Int) = 8
  · rw [if_pos h]
    obtain rfl : n = 8 := by omega
    have : v < 256 ^ 8 := by omega
    simp only [this, decide_true]
  · rw [if_neg h, eight n hn, if_pos (by omega), shr_eight v n hn]
    have hp := pow_pos n
    have hq : v / 256 ^ n = 0 ↔ v < 256 ^ n := by
      constructor
      · intro h0
        have h1 := Int.emod_add_mul_ediv v (256 ^ n)
        have h2 := Int.emod_lt_of_pos v hp
        rw [h0, Int.mul_zero] at h1
        omega
      · intro h0
        exact Int.ediv_eq_zero_of_lt hv.1 h0
    simp only [Option.some.injEq]
    by_cases h0 : v < 256 ^ n
    · rw [hq.2 h0]
      simp [h0]
    · have : ¬ v / 256 ^ n = 0 := fun z => h0 (hq.1 z)
      simp [this, h0]
theorem put_from (v : Int) (n : Nat) (hn : n ≤ 8) (d : Nat) : ∀ (i : Nat) (b : List Int), i + d = n → (b ++ le v i).length + d < 140737488355328 →
    Ev (fun k => octets_put.l0 k (b ++ le v i) v (n : Int) (i : Int)) (b ++ le v n) := by
  induction d with
  | zero =>
    intro i b h hb
    obtain rfl : i = n := by omega
    refine Ev.step (f := fun _ => some (b ++ le v i)) (fun k => ?_) (Ev.now _)
    rw [octets_put.l0, if_neg (by omega)]
  | succ d ih =>
    intro i b h hb
    refine Ev.step (f := fun k => octets_put.l0 k (b ++ le v (i + 1)) v (n : Int) ((i + 1 : Nat) : Int)) (fun k => ?_) (ih (i + 1) b (by omega) ?_)
    · rw [octets_put.l0, if_pos (by omega), eight i (by omega), if_pos (by omega), if_pos (by omega), shr_eight v i (by omega), wrap_next i n (by omega) (by omega), le_succ, List.append_assoc]
    · rw [List.length_append, le_length] at hb ⊢
      omega
theorem put_ (b : List Int) (v : Int) (n : Nat) (hn : n ≤ 8) (hb : b.length + n < 140737488355328) : Ev (fun k => octets_put.f k b v (n : Int)) (b ++ le v n) := by
  have h := put_from v n hn n 0 b (by omega) (by rw [le_zero, List.append_nil]; omega)
  refine Ev.congr (fun k => ?_) h
  rw [octets_put.f, le_zero, List.append_nil]
  rfl
theorem all_from (n : Nat) (hn : n ≤ 8) (l : List Int) (hl : ∀ v ∈ l, 0 ≤ v ∧ v ≤ 18446744073709551615) (hm : l.length ≤ 9223372036854775807) (d : Nat) : ∀ (i : Nat) (b : List Int), i + d = l.length → b.length + n * d < 140737488355328 →
    Ev (fun k => octets_PutAll.l0 k (n : Int) b l (l.length : Int) (i : Int)) (putAllOf b n (l.drop i)) := by
  induction d with
  | zero =>
    intro i b h hb
    refine Ev.step (f := fun _ => some (b, 0)) (fun k => ?_) ?_
    · rw [octets_PutAll.l0, if_neg (by omega)]
    · rw [List.drop_of_length_le (by omega)]
      exact Ev.now _
  | succ d ih =>
    intro i b h hb
    have hi : i < l.length := by omega
    have hv := hl (rd l (i : Int)) (by rw [rd_nat l i hi]; exact List.getElem_mem hi)
    rw [Nat.mul_succ] at hb
    rw [drop_rd l i hi, putAllOf]
    by_cases hf : rd l (i : Int) < 256 ^ n
    · rw [if_pos hf]
      refine Ev.step (f := fun k => (octets_put.f k b (rd l (i : Int)) (n : Int)).bind fun t => octets_PutAll.l0 k (n : Int) t l (l.length : Int) ((i + 1 : Nat) : Int)) (fun k => ?_) ?_
      · rw [octets_PutAll.l0, if_pos (by omega), if_pos (by omega), if_pos (by omega), fits_ _ n hv hn, Option.bind_some, decide_eq_true hf, if_pos rfl, wrap_next i l.length hi hm]
      · refine Ev.bind (put_ b _ n hn (by omega)) (ih (i + 1) _ (by omega) ?_)
        rw [List.length_append, le_length]
        omega
    · rw [if_neg hf]
      refine Ev.step (f := fun _ => some ([], 5)) (fun k => ?_) (Ev.now _)
      rw [octets_PutAll.l0, if_pos (by omega), if_pos (by omega), if_pos (by omega), fits_ _ n hv hn, Option.bind_some, decide_eq_false hf, if_neg (by decide)]
theorem putAll_ (b : List Int) (n : Nat) (l : List Int) (hn : 1 ≤ n ∧ n ≤ 8) (hl : ∀ v ∈ l, 0 ≤ v ∧ v ≤ 18446744073709551615) (hm : l.length ≤ 9223372036854775807) (hb : b.length + n * l.length < 140737488355328) :
    Ev (fun k => octets_PutAll.f k b (n : Int) l) (putAllOf b n l) := by
  have h := all_from n hn.2 l hl hm l.length 0 b (by omega) hb
  refine Ev.congr (fun k => ?_) h
  rw [octets_PutAll.f, sized_, Option.bind_some, decide_eq_true (by omega), if_pos rfl, clone_ b (by omega)]
  rfl
end Go.Proofs.Ytogjpilkgghidaa.Octets

/- The program's PutText. -/
namespace Go.Proofs.Ytogjpilkgghidaa.Octets
open Go.RowKit Go.Proofs.Ytogjpilkgghidaa.F Go.Proofs.Ytogjpilkgghidaa.Bytes Go.Proofs.YtogjpilkgghidaaW.PrintWords Go.Proofs.YtogjpilkgghidaaW.PrintLast Go.Proofs.YtogjpilkgghidaaW.PrintMore

theorem PutText_ (b s : List Int) (hb : b.length + s.length ≤ 140737488355000) : Ev (fun k => octets_PutText.f k b s) (putTextOf b s) := by
  unfold octets_PutText.f putTextOf
  by_cases hs : 16777216 < s.length
  · rw [if_pos hs]
    exact Ev.congr (f := fun _ => some ([], 2)) (fun k => by rw [if_pos (by omega)]) (Ev.now _)
  · rw [if_neg hs]
    refine Ev.congr (f := fun k => (octets_put.f k b (s.length : Int) ((4 : Nat) : Int)).bind fun t => if t.length + s.length < 140737488355328 then some (t ++ s, 0) else none) (fun k => ?_) ?_
    · rw [if_neg (by omega), clone_ b (by omega), Option.bind_some, u64_in _ (by omega) (by omega)]
      rfl
    · refine Ev.bind (put_ b _ 4 (by omega) (by omega)) ?_
      refine Ev.congr (f := fun _ => some (b ++ le (s.length : Int) 4 ++ s, 0)) (fun k => ?_) (Ev.now _)
      rw [if_pos (by rw [List.length_append, le_length]; omega)]
end Go.Proofs.Ytogjpilkgghidaa.Octets

/- The program's Get: what it answers. -/
namespace Go.Proofs.Ytogjpilkgghidaa.Octets
open Go.RowKit Go.Proofs.Ytogjpilkgghidaa.F Go.Proofs.Ytogjpilkgghidaa.Bytes Go.Proofs.YtogjpilkgghidaaW.PrintWords Go.Proofs.YtogjpilkgghidaaW.PrintLast Go.Proofs.YtogjpilkgghidaaW.PrintMore

theorem sizedG_ (n : Int) : octets_sized.f n = some (decide (1 ≤ n ∧ n ≤ 8)) := by
  unfold octets_sized.f
  by_cases h : n ≥ 1
  · rw [if_pos h]
    simp [h]
  · rw [if_neg h]
    simp [h]
theorem get_from (a n : Int) (y : List Int) (hy : isByte y) (hl : y.length ≤ 8) (d : Nat) : ∀ i : Nat, i + d = y.length →
    Ev (fun k => octets_Get.l0 k a n (val (y.take i)) y (y.length : Int) (i : Int)) (val y, wrap64 (a + n), 0) := by
  induction d with
  | zero =>
    intro i h
    refine Ev.step (f := fun _ => some (val y, wrap64 (a + n), 0)) (fun k => ?_) (Ev.now _)
    rw [octets_Get.l0, if_neg (by omega), List.take_of_length_le (by omega)]
  | succ d ih =>
    intro i h
    have hi : i < y.length := by omega
    have hc := rd_byte hy i hi
    have hr := val_range (isByte_take i hy)
    rw [List.length_take, Nat.min_eq_left (by omega)] at hr
    refine Ev.step (f := fun k => octets_Get.l0 k a n (val (y.take (i + 1))) y (y.length : Int) ((i + 1 : Nat) : Int)) (fun k => ?_) (ih (i + 1) (by omega))
    rw [octets_Get.l0, if_pos (by omega), if_pos (by omega), if_pos (by omega), eight i (by omega), if_pos (by omega), shl_eight _ i (by omega) hc, or_add _ _ i (by omega) hr.1 hr.2 hc, wrap_next i y.length hi (by omega),
      take_rd y i hi, val_append, List.length_take, Nat.min_eq_left (by omega), val, val]
    simp
theorem Get_ (b : List Int) (a n : Int) (hb : isByte b) (hl : b.length ≤ 140737488355328) : Ev (fun k => octets_Get.f k b a n) (getOf b a n) := by
  unfold octets_Get.f getOf
  rw [sizedG_]
  simp only [Option.bind_some]
  by_cases hn : n < 1 ∨ 8 < n
  · rw [if_pos hn, decide_eq_false (by omega)]
    exact Ev.now _
  · rw [if_neg hn, decide_eq_true (by omega)]
    simp only [if_true]
    by_cases h0 : a < 0
    · rw [if_pos (by omega)]
      refine Ev.congr (f := fun k => octets_Get.j0 k b a n true) (fun k => by rw [if_pos h0]) ?_
      refine Ev.step (f := fun _ => some (0, 0, 5)) (fun k => ?_) (Ev.now _)
      rw [octets_Get.j0, if_pos rfl]
    · refine Ev.congr (f := fun k => octets_Get.j0 k b a n (decide (a > (b.length : Int)))) (fun k => by rw [if_neg h0]) ?_
      by_cases h1 : a > (b.length : Int)
      · rw [if_pos (by omega), decide_eq_true h1]
        refine Ev.step (f := fun _ => some (0, 0, 5)) (fun k => ?_) (Ev.now _)
        rw [octets_Get.j0, if_pos rfl]
      · rw [if_neg (by omega), decide_eq_false h1]
        have hw : wrap64 ((b.length : Int) - a) = (b.length : Int) - a := wrap_in _ (by omega) (by omega)
        by_cases h2 : n > (b.length : Int) - a
        · rw [if_pos (by omega)]
          refine Ev.step (f := fun _ => some (0, 0, 10)) (fun k => ?_) (Ev.now _)
          rw [octets_Get.j0, if_neg (by decide), hw, if_pos h2]
        · rw [if_neg (by omega)]
          have hs : wrap64 (a + n) = a + n := wrap_in _ (by omega) (by omega)
          have hy : (b.take (a + n).toNat).drop a.toNat = (b.drop a.toNat).take n.toNat := by
            rw [List.take_drop]
            congr 2
            omega
          have hyl : ((b.drop a.toNat).take n.toNat).length ≤ 8 := by rw [List.length_take]; omega
          have h := get_from a n ((b.drop a.toNat).take n.toNat) (isByte_take _ (isByte_drop _ hb)) hyl (((b.drop a.toNat).take n.toNat).length) 0 (by omega)
          refine Ev.step (f := fun k => octets_Get.l0 k a n (val (((b.drop a.toNat).take n.toNat).take 0)) ((b.drop a.toNat).take n.toNat) (((b.drop a.toNat).take n.toNat).length : Int) ((0 : Nat) : Int)) (fun k => ?_) (hs ▸ h)
          rw [octets_Get.j0, if_neg (by decide), hw, if_neg h2, if_pos (by omega), hs, if_pos (by omega), if_pos (by omega), Option.bind_some, hy]
          rfl
end Go.Proofs.Ytogjpilkgghidaa.Octets

/- The program's GetText: what it answers. -/
namespace Go.Proofs.Ytogjpilkgghidaa.Octets
open Go.RowKit Go.Proofs.Ytogjpilkgghidaa.F Go.Proofs.Ytogjpilkgghidaa.Bytes Go.Proofs.YtogjpilkgghidaaW.PrintWords Go.Proofs.YtogjpilkgghidaaW.PrintLast Go.Proofs.YtogjpilkgghidaaW.PrintMore

/-- What is got with no error: its number and the place behind it. -/
theorem getOf_ok {b : List Int} {a n : Int} (hb : isByte b) (h : (getOf b a n).2.2 = 0) : 1 ≤ n ∧ n ≤ 8 ∧ 0 ≤ a ∧ a + n ≤ b.length ∧ (getOf b a n).2.1 = a + n ∧ 0 ≤ (getOf b a n).1 ∧ (getOf b a n).1 < 256 ^ n.toNat := by
  unfold getOf at h ⊢
  by_cases hn : n < 1 ∨ 8 < n
  · rw [if_pos hn] at h
    exact absurd h (by decide)
  · rw [if_neg hn] at h ⊢
    by_cases ha : a < 0 ∨ (b.length : Int) < a
    · rw [if_pos ha] at h
      exact absurd h (by decide)
    · rw [if_neg ha] at h ⊢
      by_cases hl : (b.length : Int) - a < n
      · rw [if_pos hl] at h
        exact absurd h (by decide)
      · rw [if_neg hl]
        have hr := val_range (isByte_take n.toNat (isByte_drop a.toNat hb))
        rw [show ((b.drop a.toNat).take n.toNat).length = n.toNat from by rw [List.length_take, List.length_drop]; omega] at hr
        exact ⟨by omega, by omega, by omega, by omega, rfl, hr.1, hr.2⟩
theorem cut_text (b : List Int) (x m : Nat) : (b.take (x + m)).drop x = (b.drop x).take m := by
  rw [List.take_drop]
theorem GetText_ (b : List Int) (a : Int) (hb : isByte b) (hl : b.length ≤ 140737488351232) : Ev (fun k => octets_GetText.f k b a) (getTextOf b a) := by
  have hG := Get_ b a 4 hb (by omega)
  have hok := @getOf_ok b a 4 hb
  unfold octets_GetText.f getTextOf
  refine Ev.bind hG ?_
  generalize getOf b a 4 = g at *
  obtain ⟨n, x, e⟩ := g
  dsimp only at hok ⊢
  by_cases he : e = 0
  · obtain ⟨_, _, ha, hn, hx, h0, h1⟩ := hok he
    simp only [he, if_true, ne_eq, not_true_eq_false, if_false]
    have h1' : n < 4294967296 := h1
    by_cases hbig : n > 16777216
    · simp only [if_pos hbig]
      exact Ev.now _
    · simp only [if_neg hbig]
      have hw : wrap64 ((b.length : Int) - x) = (b.length : Int) - x := wrap_in _ (by omega) (by omega)
      rw [wrap_in n (by omega) (by omega), hw, wrap_in (x + n) (by omega) (by omega)]
      by_cases hs : n > (b.length : Int) - x
      · simp only [if_pos hs]
        exact Ev.now _
      · simp only [if_neg hs]
        rw [if_pos (by omega), if_pos (by omega), if_pos (by omega), show (x + n).toNat = x.toNat + n.toNat by omega, cut_text, clone_ _ (by rw [List.length_take]; omega)]
        exact Ev.now _
  · simp only [he, if_false, ne_eq, not_false_eq_true, if_true]
    exact Ev.now _
end Go.Proofs.Ytogjpilkgghidaa.Octets

/- Shapes, requests, results in plain words: which may be. -/
namespace Go.Proofs.Ytogjpilkgghidaa.Block
open Go.RowKit Go.Proofs.Ytogjpilkgghidaa.F Go.Proofs.Ytogjpilkgghidaa.Octets Go.Proofs.YtogjpilkgghidaaW.PrintWords Go.Proofs.YtogjpilkgghidaaW.PrintLast Go.Proofs.YtogjpilkgghidaaW.PrintMore

def okForm (kind at_ n : Int) (data old : List Int) : Prop := 0 ≤ at_ ∧ at_ ≤ 2147483647 ∧ 0 ≤ n ∧ n ≤ 2147483647 ∧ data.length ≤ 262144 ∧ old.length ≤ 4096 ∧
  ((kind = 1 ∨ kind = 3) ∧ data.length = 0 ∧ old.length = 0 ∨ kind = 2 ∧ old.length = 0 ∨ kind = 5 ∧ n = 0 ∨ kind = 4 ∧ at_ = 0 ∧ n = 0 ∧ data.length = 0 ∧ old.length = 0)
instance (kind at_ n : Int) (data old : List Int) : Decidable (okForm kind at_ n data old) := by unfold okForm; infer_instance
def formOf (kind at_ n : Int) (data old : List Int) : Int := if okForm kind at_ n data old then 0 else 41
theorem bare_ (kind at_ n : Int) (data old : List Int) : block_bare.f kind at_ n data old = some (decide ((kind = 1 ∨ kind = 3) ∧ data.length = 0 ∧ old.length = 0 ∨ kind = 2 ∧ old.length = 0 ∨ kind = 5 ∧ n = 0 ∨ kind = 4 ∧ at_ = 0 ∧ n = 0 ∧ data.length = 0 ∧ old.length = 0)) := by
  unfold block_bare.f
  repeat' split
  all_goals (refine congrArg some ?_; rw [Bool.eq_iff_iff]; simp only [beq_iff_eq, decide_eq_true_eq, Bool.false_eq_true, false_iff]; omega)
theorem Form_ (kind at_ n : Int) (data old : List Int) : block_Form.f kind at_ n data old = some (formOf kind at_ n data old) := by
  unfold block_Form.f formOf
  have h1 : (mn at_ n < 0) ↔ (at_ < 0 ∨ n < 0) := by
    unfold mn
    split <;> omega
  have h2 : (mx at_ n > 2147483647) ↔ (at_ > 2147483647 ∨ n > 2147483647) := by
    unfold mx
    split <;> omega
  rw [bare_]
  simp only [Option.bind_some, decide_eq_true_eq, h1, h2]
  clear h1 h2
  by_cases hok : okForm kind at_ n data old
  · rw [if_pos hok]
    unfold okForm at hok
    repeat' split
    all_goals first | rfl | (exfalso; omega)
  · rw [if_neg hok]
    unfold okForm at hok
    repeat' split
    all_goals first | rfl | (exfalso; omega)
theorem ref_Form (kind at_ n : Int) (data old : List Int) (hd : data.length ≤ 140737488355328) (ho : old.length ≤ 140737488355328) : Ev (fun k => plinthref04_Form.f k kind at_ n data old) (formOf kind at_ n data old) := by
  have hT : ¬ okForm kind at_ n data old → Ev (fun k => plinthref04_Form.j0 k true kind at_ n data old) (formOf kind at_ n data old) := by
    intro h
    refine Ev.step (fun k => plinthref04_Form.j0.eq_2 _ _ _ _ _ _ k) ?_
    simp only [if_true, formOf, if_neg h]
    exact Ev.now _
  have hw : wrap64 ((data.length : Int) + (old.length : Int)) = (data.length : Int) + (old.length : Int) := wrap_in _ (by omega) (by omega)
  unfold plinthref04_Form.f
  by_cases c1 : at_ < 0
  · simp only [if_pos c1]
    exact hT (by unfold okForm; omega)
  simp only [if_neg c1]
  by_cases c2 : at_ > 2147483647
  · simp only [if_pos c2]
    exact hT (by unfold okForm; omega)
  simp only [if_neg c2]
  by_cases c3 : n < 0
  · simp only [if_pos c3]
    exact hT (by unfold okForm; omega)
  simp only [if_neg c3]
  by_cases c4 : n > 2147483647
  · simp only [if_pos c4]
    exact hT (by unfold okForm; omega)
  simp only [if_neg c4]
  by_cases c5 : (data.length : Int) > 262144
  · simp only [if_pos c5]
    exact hT (by unfold okForm; omega)
  simp only [if_neg c5]
  by_cases c6 : (old.length : Int) > 4096
  · simp only [decide_eq_true c6]
    exact hT (by unfold okForm; omega)
  simp only [decide_eq_false c6]
  refine Ev.step (fun k => plinthref04_Form.j0.eq_2 _ _ _ _ _ _ k) ?_
  simp only [Bool.false_eq_true, if_false]
  have key : ∀ b : Bool, (b = true ↔ kind = 1 ∨ kind = 3) → Ev (fun k => plinthref04_Form.j1 k kind b kind at_ n data old) (formOf kind at_ n data old) := by
    intro b hb
    refine Ev.step (fun k => plinthref04_Form.j1.eq_2 _ _ _ _ _ _ _ k) ?_
    simp only [hw]
    refine Ev.congr (f := fun _ => some (formOf kind at_ n data old)) (fun k => ?_) (Ev.now _)
    unfold formOf
    by_cases hok : okForm kind at_ n data old <;> by_cases hk : b = true
    · have hk2 := hb.1 hk
      simp only [if_pos hk, if_pos hok]
      unfold okForm at hok
      repeat' split
      all_goals first | rfl | (exfalso; omega)
    · have hk2 : ¬ (kind = 1 ∨ kind = 3) := fun h => hk (hb.2 h)
      simp only [if_neg hk, if_pos hok]
      unfold okForm at hok
      repeat' split
      all_goals first | rfl | (exfalso; omega)
    · have hk2 := hb.1 hk
      simp only [if_pos hk, if_neg hok]
      unfold okForm at hok
      repeat' split
      all_goals first | rfl | (exfalso; omega)
    · have hk2 : ¬ (kind = 1 ∨ kind = 3) := fun h => hk (hb.2 h)
      simp only [if_neg hk, if_neg hok]
      unfold okForm at hok
      repeat' split
      all_goals first | rfl | (exfalso; omega)
  by_cases c7 : kind = 1
  · simp only [if_pos c7]
    exact key _ (by simp [c7])
  · simp only [if_neg c7]
    exact key _ (by simp; omega)
theorem same_shape (a b : Int) : plinthref04_Shape.f a b = block_Shape.f a b := rfl
def okResult (code : Int) (data : List Int) : Prop := (code = 1 ∨ code = 4) ∧ data.length ≤ 262144 ∨ (code = 2 ∨ code = 3) ∧ data.length = 0
instance (code : Int) (data : List Int) : Decidable (okResult code data) := by unfold okResult; infer_instance
def resultOf (code : Int) (data : List Int) : Int := if okResult code data then 0 else 42
theorem Result_ (code : Int) (data : List Int) : Ev (fun k => block_Result.f k code data) (resultOf code data) := by
  have key : ∀ b : Bool, (b = true ↔ code = 1 ∨ code = 4) → Ev (fun k => block_Result.j0 k false code b code data) (resultOf code data) := by
    intro b hb
    refine Ev.step (fun k => block_Result.j0.eq_2 _ _ _ _ _ k) ?_
    by_cases hk : b = true
    · have hk2 := hb.1 hk
      simp only [if_pos hk]
      refine Ev.congr (f := fun _ => some (resultOf code data)) (fun k => ?_) (Ev.now _)
      unfold resultOf
      by_cases hok : okResult code data
      · rw [if_pos hok]
        unfold okResult at hok
        repeat' split
        all_goals first | rfl | (exfalso; omega)
      · rw [if_neg hok]
        unfold okResult at hok
        repeat' split
        all_goals first | rfl | (exfalso; omega)
    · have hk2 : ¬ (code = 1 ∨ code = 4) := fun h => hk (hb.2 h)
      simp only [if_neg hk]
      have key2 : ∀ c : Bool, (c = true ↔ code = 2 ∨ code = 3) → Ev (fun k => block_Result.j1 k false c code data) (resultOf code data) := by
        intro c hc
        refine Ev.step (fun k => block_Result.j1.eq_2 _ _ _ _ k) ?_
        refine Ev.congr (f := fun _ => some (resultOf code data)) (fun k => ?_) (Ev.now _)
        unfold resultOf
        by_cases hok : okResult code data <;> by_cases hk3 : c = true
        · have hk4 := hc.1 hk3
          simp only [if_pos hk3, if_pos hok]
          unfold okResult at hok
          repeat' split
          all_goals first | rfl | (exfalso; omega)
        · have hk4 : ¬ (code = 2 ∨ code = 3) := fun h => hk3 (hc.2 h)
          unfold okResult at hok
          exfalso
          omega
        · have hk4 := hc.1 hk3
          simp only [if_pos hk3, if_neg hok]
          unfold okResult at hok
          repeat' split
          all_goals first | rfl | (exfalso; omega)
        · simp only [if_neg hk3, if_neg hok, Bool.false_eq_true, if_false]
      by_cases c2 : code = 2
      · simp only [if_pos c2]
        exact key2 _ (by simp [c2])
      · simp only [if_neg c2]
        exact key2 _ (by simp; omega)
  unfold block_Result.f
  by_cases c1 : code = 1
  · simp only [if_pos c1]
    exact key _ (by simp [c1])
  · simp only [if_neg c1]
    exact key _ (by simp; omega)
theorem ref_Result (code : Int) (data : List Int) : Ev (fun k => plinthref04_Result.f k code data) (resultOf code data) := by
  have key : ∀ b : Bool, (b = true ↔ code < 1 ∨ 4 < code ∨ 262144 < data.length) → Ev (fun k => plinthref04_Result.j0 k b code data) (resultOf code data) := by
    intro b hb
    refine Ev.step (fun k => plinthref04_Result.j0.eq_2 _ _ _ k) ?_
    refine Ev.congr (f := fun _ => some (resultOf code data)) (fun k => ?_) (Ev.now _)
    unfold resultOf
    by_cases hok : okResult code data <;> by_cases hk : b = true
    · have hk2 := hb.1 hk
      unfold okResult at hok
      exfalso
      omega
    · have hk2 : ¬ (code < 1 ∨ 4 < code ∨ 262144 < data.length) := fun h => hk (hb.2 h)
      simp only [if_neg hk, if_pos hok]
      unfold okResult at hok
      repeat' split
      all_goals first | rfl | (exfalso; omega)
    · simp only [if_pos hk, if_neg hok]
    · have hk2 : ¬ (code < 1 ∨ 4 < code ∨ 262144 < data.length) := fun h => hk (hb.2 h)
      simp only [if_neg hk, if_neg hok]
      unfold okResult at hok
      repeat' split
      all_goals first | rfl | (exfalso; omega)
  unfold plinthref04_Result.f
  by_cases c1 : code < 1
  · simp only [if_pos c1]
    exact key _ (by simp [c1])
  · simp only [if_neg c1]
    by_cases c2 : code > 4
    · simp only [if_pos c2]
      exact key _ (by simp; omega)
    · simp only [if_neg c2]
      exact key _ (by simp; omega)
end Go.Proofs.Ytogjpilkgghidaa.Block

/- Which requests fit which shapes: program and reference answer alike. -/
namespace Go.Proofs.Ytogjpilkgghidaa.Block
open Go.RowKit Go.Proofs.Ytogjpilkgghidaa.F Go.Proofs.Ytogjpilkgghidaa.Octets Go.Proofs.YtogjpilkgghidaaW.PrintWords Go.Proofs.YtogjpilkgghidaaW.PrintLast Go.Proofs.YtogjpilkgghidaaW.PrintMore

def okShape (B S : Int) : Prop := 1 ≤ B ∧ B ≤ 4096 ∧ 1 ≤ S ∧ S ≤ 4096
instance (B S : Int) : Decidable (okShape B S) := by unfold okShape; infer_instance
def fitOf (B S kind at_ n : Int) (data old : List Int) : Int × Int :=
  if ¬ okShape B S then (0, 40) else if ¬ okForm kind at_ n data old then (0, 41) else if kind = 4 then (1, 0)
  else if kind = 5 then (if at_ ≥ B then (2, 0) else if (data.length : Int) = S ∧ (old.length : Int) = S then (1, 0) else (3, 0))
  else if n < 1 ∨ n > 64 ∨ at_ > B - n then (2, 0) else if kind = 2 ∧ (data.length : Int) ≠ n * S then (3, 0) else (1, 0)
theorem Shape_ (B S : Int) : block_Shape.f B S = some (if okShape B S then 0 else 40) := by
  unfold block_Shape.f
  by_cases h : okShape B S
  · rw [if_pos h]
    unfold okShape at h
    repeat' split
    all_goals first | rfl | (exfalso; omega)
  · rw [if_neg h]
    unfold okShape at h
    repeat' split
    all_goals first | rfl | (exfalso; omega)
theorem Changes_ (kind at_ n : Int) (data old : List Int) : block_Changes.f kind at_ n data old = some (decide (kind = 2 ∨ kind = 3 ∨ kind = 5)) := by
  unfold block_Changes.f
  repeat' split
  all_goals (refine congrArg some ?_; simp; try omega)
theorem area {n S : Int} (h : 1 ≤ n ∧ n ≤ 64) (hs : 1 ≤ S ∧ S ≤ 4096) : wrap64 (n * S) = n * S := by
  have h1 : n * S ≤ 64 * 4096 := Int.mul_le_mul h.2 hs.2 (by omega) (by omega)
  have h2 : 0 ≤ n * S := Int.mul_nonneg (by omega) (by omega)
  exact wrap_in _ (by omega) (by omega)
theorem Fit_ (B S kind at_ n : Int) (data old : List Int) : Ev (fun k => block_Fit.f k B S kind at_ n data old) (fitOf B S kind at_ n data old) := by
  unfold block_Fit.f fitOf
  rw [Shape_, Form_]
  by_cases h1 : okShape B S
  · by_cases h2 : okForm kind at_ n data old
    · have e2 : formOf kind at_ n data old = 0 := by unfold formOf; rw [if_pos h2]
      have s := h1
      have f := h2
      unfold okShape at s
      unfold okForm at f
      simp only [e2, if_pos h1, if_neg (not_not_intro h1), if_neg (not_not_intro h2), if_true, Option.bind_some]
      by_cases c4 : kind = 4
      · simp only [if_pos c4]
        exact Ev.now _
      simp only [if_neg c4]
      have hw : ∀ m : Int, 1 ≤ m → m ≤ 64 → wrap64 (B - m) = B - m := fun m _ _ => wrap_in _ (by omega) (by omega)
      by_cases c5 : kind = 5
      · simp only [if_pos c5]
        refine Ev.step (fun k => block_Fit.j0.eq_2 _ _ _ _ _ _ _ _ k) ?_
        simp only [if_neg (show ¬ (1 : Int) < 1 by omega), if_neg (show ¬ (1 : Int) > 64 by omega), hw 1 (by omega) (by omega)]
        refine Ev.step (fun k => block_Fit.j1.eq_2 _ _ _ _ _ _ _ _ _ k) ?_
        have hS : wrap64 (1 * S) = S := by rw [area (by omega) (by omega), Int.one_mul]
        refine Ev.congr (f := fun _ => some _) (fun k => ?_) (Ev.now _)
        rw [Changes_, hS]
        by_cases ca : at_ ≥ B
        · rw [if_pos ca, if_pos (by simp; omega)]
        · rw [if_neg ca, if_neg (by simp; omega)]
          simp only [Option.bind_some, c5, decide_eq_true_eq]
          rw [if_pos (by decide), if_neg (by decide)]
          by_cases cd : (data.length : Int) = S <;> by_cases co : (old.length : Int) = S <;> simp [cd, co]
      · simp only [if_neg c5]
        have hj1 : 1 ≤ n → n ≤ 64 → ∀ b : Bool, (b = true ↔ at_ > B - n) → Ev (fun k => block_Fit.j1 k n b B S kind at_ n data old) (if n < 1 ∨ n > 64 ∨ at_ > B - n then (2, 0) else if kind = 2 ∧ (data.length : Int) ≠ n * S then (3, 0) else (1, 0)) := by
          intro n1 n2 b hb
          refine Ev.step (fun k => block_Fit.j1.eq_2 _ _ _ _ _ _ _ _ _ k) ?_
          refine Ev.congr (f := fun _ => some _) (fun k => ?_) (Ev.now _)
          rw [Changes_, area ⟨n1, n2⟩ (by omega)]
          by_cases hbt : b = true
          · rw [if_pos hbt, if_pos (.inr (.inr (hb.1 hbt)))]
          · have hnb : ¬ at_ > B - n := fun h => hbt (hb.2 h)
            rw [if_neg hbt, if_neg (show ¬ (n < 1 ∨ n > 64 ∨ at_ > B - n) by omega)]
            simp only [Option.bind_some, decide_eq_true_eq, if_neg c5]
            by_cases k2 : kind = 2
            · by_cases kd : (data.length : Int) = n * S
              · simp [k2, kd]
              · simp [k2, kd]
            · by_cases k3 : kind = 3
              · simp [k3]
              · simp [k2, k3, c5]
        refine Ev.step (fun k => block_Fit.j0.eq_2 _ _ _ _ _ _ _ _ k) ?_
        by_cases n1 : n < 1
        · simp only [if_pos n1]
          refine Ev.step (fun k => block_Fit.j1.eq_2 _ _ _ _ _ _ _ _ _ k) ?_
          simp only [if_true, if_pos (show n < 1 ∨ n > 64 ∨ at_ > B - n from .inl n1)]
          exact Ev.now _
        · simp only [if_neg n1]
          by_cases n2 : n > 64
          · simp only [if_pos n2]
            refine Ev.step (fun k => block_Fit.j1.eq_2 _ _ _ _ _ _ _ _ _ k) ?_
            simp only [if_true, if_pos (show n < 1 ∨ n > 64 ∨ at_ > B - n from .inr (.inl n2))]
            exact Ev.now _
          · simp only [if_neg n2, hw n (by omega) (by omega)]
            exact hj1 (by omega) (by omega) _ (by simp)
    · have e2 : formOf kind at_ n data old = 41 := by unfold formOf; rw [if_neg h2]
      simp only [e2, if_pos h1, if_neg (not_not_intro h1), if_pos h2, if_true, Option.bind_some]
      exact Ev.now _
  · simp only [if_neg h1, if_pos h1, Option.bind_some]
    exact Ev.now _
theorem ref_Fit (B S kind at_ n : Int) (data old : List Int) (hd : data.length ≤ 140737488355328) (ho : old.length ≤ 140737488355328) : Ev (fun k => plinthref04_Fit.f k B S kind at_ n data old) (fitOf B S kind at_ n data old) := by
  have hF := ref_Form kind at_ n data old hd ho
  unfold plinthref04_Fit.f fitOf
  simp only [same_shape, Shape_, Option.bind_some]
  by_cases h1 : okShape B S
  · simp only [if_pos h1, if_neg (not_not_intro h1), if_true]
    refine Ev.bind hF ?_
    refine Ev.step (fun k => plinthref04_Fit.j0.eq_2 _ _ _ _ _ _ _ _ k) ?_
    by_cases h2 : okForm kind at_ n data old
    · have e2 : formOf kind at_ n data old = 0 := by unfold formOf; rw [if_pos h2]
      have s := h1
      have f := h2
      unfold okShape at s
      unfold okForm at f
      simp only [e2, if_neg (not_not_intro h2), if_true]
      by_cases c4 : kind = 4
      · simp only [if_pos c4]
        exact Ev.now _
      simp only [if_neg c4]
      by_cases c5 : kind = 5
      · simp only [if_pos c5]
        refine Ev.congr (f := fun _ => some _) (fun k => ?_) (Ev.now _)
        by_cases ca : at_ ≥ B
        · rw [if_pos ca, if_pos ca]
        · rw [if_neg ca, if_neg ca]
          by_cases cd : (data.length : Int) = S <;> by_cases co : (old.length : Int) = S <;> simp [cd, co]
      · simp only [if_neg c5]
        have hj1 : ∀ b : Bool, (b = true ↔ n < 1 ∨ n > 64 ∨ at_ > B - n) → Ev (fun k => plinthref04_Fit.j1 k b B S kind at_ n data old) (if n < 1 ∨ n > 64 ∨ at_ > B - n then (2, 0) else if kind = 2 ∧ (data.length : Int) ≠ n * S then (3, 0) else (1, 0)) := by
          intro b hb
          refine Ev.step (fun k => plinthref04_Fit.j1.eq_2 _ _ _ _ _ _ _ _ k) ?_
          refine Ev.congr (f := fun _ => some _) (fun k => ?_) (Ev.now _)
          by_cases hbt : b = true
          · rw [if_pos hbt, if_pos (hb.1 hbt)]
          · have hnb : ¬ (n < 1 ∨ n > 64 ∨ at_ > B - n) := fun h => hbt (hb.2 h)
            rw [if_neg hbt, if_neg hnb, area (by omega) (by omega)]
            by_cases k2 : kind = 2
            · by_cases kd : (data.length : Int) = n * S <;> simp [k2, kd]
            · simp [k2]
        by_cases n1 : n < 1
        · simp only [if_pos n1]
          exact hj1 true (by simp [n1])
        · simp only [if_neg n1]
          by_cases n2 : n > 64
          · simp only [if_pos n2]
            exact hj1 true (by simp; omega)
          · have hw : wrap64 (B - n) = B - n := wrap_in _ (by omega) (by omega)
            simp only [if_neg n2, hw]
            exact hj1 _ (by simp; omega)
    · have e2 : formOf kind at_ n data old = 41 := by unfold formOf; rw [if_neg h2]
      simp only [e2, if_pos h2]
      exact Ev.now _
  · simp only [if_neg h1, if_pos h1, if_neg (show ¬ (40 : Int) = 0 by decide)]
    refine Ev.step (fun k => plinthref04_Fit.j0.eq_2 _ _ _ _ _ _ _ _ k) ?_
    simp only [if_neg (show ¬ (40 : Int) = 0 by decide)]
    exact Ev.now _
end Go.Proofs.Ytogjpilkgghidaa.Block

/- Requests as bytes: what EncodeOp and DecodeOp answer; a write there and back. -/
namespace Go.Proofs.Ytogjpilkgghidaa.Block
open Go.RowKit Go.Proofs.Ytogjpilkgghidaa.F Go.Proofs.Ytogjpilkgghidaa.Bytes Go.Proofs.Ytogjpilkgghidaa.Octets Go.Proofs.YtogjpilkgghidaaW.PrintWords Go.Proofs.YtogjpilkgghidaaW.PrintLast Go.Proofs.YtogjpilkgghidaaW.PrintMore

theorem number_ok {b : List Int} {a n v nx : Int} (hb : isByte b) (hl : b.length ≤ 140737488351232) (h : getOf b a n = (v, nx, 0)) : Ev (fun k => block_left_number.f k b a 0 n) (wrap64 v, nx, 0) := by
  unfold block_left_number.f
  simp only [if_true]
  have hg := Get_ b a n hb (by omega)
  rw [h] at hg
  refine Ev.bind hg ?_
  simp only [if_true]
  exact Ev.now _
theorem text_ok {b s : List Int} {a nx : Int} (hb : isByte b) (hl : b.length ≤ 140737488351232) (h : getTextOf b a = (s, nx, 0)) : Ev (fun k => block_left_text.f k b a 0) (s, nx, 0) := by
  unfold block_left_text.f
  simp only [if_true]
  have hg := GetText_ b a hb hl
  rw [h] at hg
  refine Ev.bind hg ?_
  simp only [if_true]
  exact Ev.now _
theorem awake : Ev (fun k => plinthlaw04_awake.f k) true := by
  have hB : isByte [2, 7, 0, 0, 0, 2, 0, 0, 0, 4, 0, 0, 0, 97, 98, 99, 100, 0, 0, 0, 0] := by unfold isByte; decide
  have hE : Ev (fun k => block_EncodeOp.f k 2 7 2 [97, 98, 99, 100] []) ([2, 7, 0, 0, 0, 2, 0, 0, 0, 4, 0, 0, 0, 97, 98, 99, 100, 0, 0, 0, 0], 0) := by
    have h1 := putAll_ [2] 4 [7, 2] (by omega) (by decide) (by simp) (by simp)
    have h2 := PutText_ [2, 7, 0, 0, 0, 2, 0, 0, 0] [97, 98, 99, 100] (by simp)
    have h3 := PutText_ [2, 7, 0, 0, 0, 2, 0, 0, 0, 4, 0, 0, 0, 97, 98, 99, 100] [] (by simp)
    rw [show putAllOf [2] 4 [7, 2] = ([2, 7, 0, 0, 0, 2, 0, 0, 0], 0) from by decide +kernel] at h1
    rw [show putTextOf [2, 7, 0, 0, 0, 2, 0, 0, 0] [97, 98, 99, 100] = ([2, 7, 0, 0, 0, 2, 0, 0, 0, 4, 0, 0, 0, 97, 98, 99, 100], 0) from by decide +kernel] at h2
    rw [show putTextOf [2, 7, 0, 0, 0, 2, 0, 0, 0, 4, 0, 0, 0, 97, 98, 99, 100] [] = ([2, 7, 0, 0, 0, 2, 0, 0, 0, 4, 0, 0, 0, 97, 98, 99, 100, 0, 0, 0, 0], 0) from by decide +kernel] at h3
    unfold block_EncodeOp.f
    rw [Form_, show formOf 2 7 2 [97, 98, 99, 100] [] = 0 from by decide +kernel]
    simp only [Option.bind_some, if_true, u64_in 7 (by omega) (by omega), u64_in 2 (by omega) (by omega)]
    refine Ev.bind h1 ?_
    refine Ev.bind h2 ?_
    refine Ev.bind h3 ?_
    exact Ev.now _
  have hD : Ev (fun k => block_DecodeOp.f k [2, 7, 0, 0, 0, 2, 0, 0, 0, 4, 0, 0, 0, 97, 98, 99, 100, 0, 0, 0, 0]) (2, 7, 2, [97, 98, 99, 100], [], 21, 0) := by
    unfold block_DecodeOp.f
    have n1 := number_ok (a := 0) (n := 1) hB (by simp) (show getOf _ 0 1 = (2, 1, 0) from by decide +kernel)
    have n2 := number_ok (a := 1) (n := 4) hB (by simp) (show getOf _ 1 4 = (7, 5, 0) from by decide +kernel)
    have n3 := number_ok (a := 5) (n := 4) hB (by simp) (show getOf _ 5 4 = (2, 9, 0) from by decide +kernel)
    have t1 := text_ok (a := 9) hB (by simp) (show getTextOf _ 9 = ([97, 98, 99, 100], 17, 0) from by decide +kernel)
    have t2 := text_ok (a := 17) hB (by simp) (show getTextOf _ 17 = ([], 21, 0) from by decide +kernel)
    rw [show wrap64 2 = 2 from by decide +kernel] at n1 n3
    rw [show wrap64 7 = 7 from by decide +kernel] at n2
    refine Ev.bind n1 ?_
    refine Ev.bind n2 ?_
    refine Ev.bind n3 ?_
    refine Ev.bind t1 ?_
    refine Ev.bind t2 ?_
    simp only [Form_, show formOf (2 % 256) 7 2 [97, 98, 99, 100] [] = 0 from by decide +kernel, Option.bind_some, block_reader_end.f, if_true]
    exact Ev.now _
  have hF := Fit_ 8 2 2 7 2 [97, 98, 99, 100] []
  rw [show fitOf 8 2 2 7 2 [97, 98, 99, 100] [] = (2, 0) from by decide +kernel] at hF
  have ht : (strOfNums [97, 98, 99, 100]).toList = ([97, 98, 99, 100] : List UInt8) := by
    rw [toList_data]
    rfl
  unfold plinthlaw04_awake.f
  simp only [Option.bind_some]
  refine Ev.bind hF ?_
  refine Ev.bind hE ?_
  refine Ev.bind hD ?_
  simp only [if_true, ht, beq_self_eq_true]
  exact Ev.now _
end Go.Proofs.Ytogjpilkgghidaa.Block
