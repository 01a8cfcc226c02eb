/- The program's put, PutAll, Put, PutText: what they answer. -/
import Derived.Test.YtogjpilkgghidaaOctets
import Derived.Test.YtogjpilkgghidaaFx7
import Derived.Test.YtogjpilkgghidaaFx8
namespace Go.Proofs.Ytogjpilkgghidaa.Octets
open Go.RowKit Go.Proofs.Ytogjpilkgghidaa.F Go.Proofs.Ytogjpilkgghidaa.Bytes Go.Proofs.YtogjpilkgghidaaW.PrintWords Go.Proofs.YtogjpilkgghidaaW.PrintLast Go.Proofs.YtogjpilkgghidaaW.PrintMore

theorem clone_ (l : List Int) (h : l.length < 140737488355328) : slices_Clone_byte_byte.f l = some l := by
  unfold slices_Clone_byte_byte.f
  simp only [Option.bind_some, List.nil_append, List.length_nil]
  rw [if_pos (by omega)]
theorem sized_ (n : Int) : octets_sized.f n = some (decide (1 ≤ n ∧ n ≤ 8)) := by
  unfold octets_sized.f
  by_cases h : n ≥ 1
  · rw [if_pos h]
    simp [h]
  · rw [if_neg h]
    simp [h]
theorem fits_ (v : Int) (n : Nat) (hv : 0 ≤ v ∧ v ≤ 18446744073709551615) (hn : n ≤ 8) : octets_fits.f v (n : Int) = some (decide (v < 256 ^ n)) := by
  unfold octets_fits.f
  by_cases h : (n : Int) = 8
  · rw [if_pos h]
    obtain rfl : n = 8 := by omega
    have : v < 256 ^ 8 := by omega
    simp only [this, decide_true]
  · rw [if_neg h, eight n hn, if_pos (by omega), shr_eight v n hn]
    have hp := pow_pos n
    have hq : v / 256 ^ n = 0 ↔ v < 256 ^ n := by
      constructor
      · intro h0
        have h1 := Int.emod_add_mul_ediv v (256 ^ n)
        have h2 := Int.emod_lt_of_pos v hp
        rw [h0, Int.mul_zero] at h1
        omega
      · intro h0
        exact Int.ediv_eq_zero_of_lt hv.1 h0
    simp only [Option.some.injEq]
    by_cases h0 : v < 256 ^ n
    · rw [hq.2 h0]
      simp [h0]
    · have : ¬ v / 256 ^ n = 0 := fun z => h0 (hq.1 z)
      simp [this, h0]
theorem put_from (v : Int) (n : Nat) (hn : n ≤ 8) (d : Nat) : ∀ (i : Nat) (b : List Int), i + d = n → (b ++ le v i).length + d < 140737488355328 →
    Ev (fun k => octets_put.l0 k (b ++ le v i) v (n : Int) (i : Int)) (b ++ le v n) := by
  induction d with
  | zero =>
    intro i b h hb
    obtain rfl : i = n := by omega
    refine Ev.step (f := fun _ => some (b ++ le v i)) (fun k => ?_) (Ev.now _)
    rw [octets_put.l0, if_neg (by omega)]
  | succ d ih =>
    intro i b h hb
    refine Ev.step (f := fun k => octets_put.l0 k (b ++ le v (i + 1)) v (n : Int) ((i + 1 : Nat) : Int)) (fun k => ?_) (ih (i + 1) b (by omega) ?_)
    · rw [octets_put.l0, if_pos (by omega), eight i (by omega), if_pos (by omega), if_pos (by omega), shr_eight v i (by omega), wrap_next i n (by omega) (by omega), le_succ, List.append_assoc]
    · rw [List.length_append, le_length] at hb ⊢
      omega
theorem put_ (b : List Int) (v : Int) (n : Nat) (hn : n ≤ 8) (hb : b.length + n < 140737488355328) : Ev (fun k => octets_put.f k b v (n : Int)) (b ++ le v n) := by
  have h := put_from v n hn n 0 b (by omega) (by rw [le_zero, List.append_nil]; omega)
  refine Ev.congr (fun k => ?_) h
  rw [octets_put.f, le_zero, List.append_nil]
  rfl
theorem all_from (n : Nat) (hn : n ≤ 8) (l : List Int) (hl : ∀ v ∈ l, 0 ≤ v ∧ v ≤ 18446744073709551615) (hm : l.length ≤ 9223372036854775807) (d : Nat) : ∀ (i : Nat) (b : List Int), i + d = l.length → b.length + n * d < 140737488355328 →
    Ev (fun k => octets_PutAll.l0 k (n : Int) b l (l.length : Int) (i : Int)) (putAllOf b n (l.drop i)) := by
  induction d with
  | zero =>
    intro i b h hb
    refine Ev.step (f := fun _ => some (b, 0)) (fun k => ?_) ?_
    · rw [octets_PutAll.l0, if_neg (by omega)]
    · rw [List.drop_of_length_le (by omega)]
      exact Ev.now _
  | succ d ih =>
    intro i b h hb
    have hi : i < l.length := by omega
    have hv := hl (rd l (i : Int)) (by rw [rd_nat l i hi]; exact List.getElem_mem hi)
    rw [Nat.mul_succ] at hb
    rw [drop_rd l i hi, putAllOf]
    by_cases hf : rd l (i : Int) < 256 ^ n
    · rw [if_pos hf]
      refine Ev.step (f := fun k => (octets_put.f k b (rd l (i : Int)) (n : Int)).bind fun t => octets_PutAll.l0 k (n : Int) t l (l.length : Int) ((i + 1 : Nat) : Int)) (fun k => ?_) ?_
      · rw [octets_PutAll.l0, if_pos (by omega), if_pos (by omega), if_pos (by omega), fits_ _ n hv hn, Option.bind_some, decide_eq_true hf, if_pos rfl, wrap_next i l.length hi hm]
      · refine Ev.bind (put_ b _ n hn (by omega)) (ih (i + 1) _ (by omega) ?_)
        rw [List.length_append, le_length]
        omega
    · rw [if_neg hf]
      refine Ev.step (f := fun _ => some ([], 5)) (fun k => ?_) (Ev.now _)
      rw [octets_PutAll.l0, if_pos (by omega), if_pos (by omega), if_pos (by omega), fits_ _ n hv hn, Option.bind_some, decide_eq_false hf, if_neg (by decide)]
theorem putAll_ (b : List Int) (n : Nat) (l : List Int) (hn : 1 ≤ n ∧ n ≤ 8) (hl : ∀ v ∈ l, 0 ≤ v ∧ v ≤ 18446744073709551615) (hm : l.length ≤ 9223372036854775807) (hb : b.length + n * l.length < 140737488355328) :
    Ev (fun k => octets_PutAll.f k b (n : Int) l) (putAllOf b n l) := by
  have h := all_from n hn.2 l hl hm l.length 0 b (by omega) hb
  refine Ev.congr (fun k => ?_) h
  rw [octets_PutAll.f, sized_, Option.bind_some, decide_eq_true (by omega), if_pos rfl, clone_ b (by omega)]
  rfl
end Go.Proofs.Ytogjpilkgghidaa.Octets
