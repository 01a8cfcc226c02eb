/- What is encoded is decoded, whatever stands behind it; what is decoded is encoded as just the bytes that it had. -/
import Derived.Test.YtogjpilkgghidaaCode
namespace Go.Proofs.Ytogjpilkgghidaa.Block
open Go.RowKit Go.Proofs.Ytogjpilkgghidaa.F Go.Proofs.Ytogjpilkgghidaa.Bytes Go.Proofs.Ytogjpilkgghidaa.Octets Go.Proofs.YtogjpilkgghidaaW.PrintWords Go.Proofs.YtogjpilkgghidaaW.PrintLast Go.Proofs.YtogjpilkgghidaaW.PrintMore

theorem le_cons (v : Int) (n : Nat) : le v (n + 1) = v % 256 :: le (v / 256) n := by
  unfold le
  rw [List.range_succ_eq_map, List.map_cons, List.map_map]
  congr 1
  · simp
  · apply List.map_congr_left
    intro i _
    have h : v / 256 / 256 ^ i = v / (256 * 256 ^ i) := Int.ediv_ediv_of_nonneg (by decide)
    simp only [Function.comp_apply]
    rw [h, Int.pow_succ, Int.mul_comm]
theorem le_val {l : List Int} (h : isByte l) : le (val l) l.length = l := by
  induction l with
  | nil => rfl
  | cons c l ih =>
    have hc := h c (by simp)
    have e1 : (c + 256 * val l) % 256 = c := by omega
    have e2 : (c + 256 * val l) / 256 = val l := by omega
    rw [List.length_cons, val, le_cons, e1, e2, ih (fun x hx => h x (by simp [hx]))]
theorem val_le_in (v : Int) (n : Nat) (h : 0 ≤ v ∧ v < 256 ^ n) : val (le v n) = v := by
  rw [val_le, Int.emod_eq_of_lt h.1 h.2]
theorem take_front (a b : List Int) (n : Nat) (h : a.length = n) : (a ++ b).take n = a := by
  rw [← h, List.take_left]
theorem drop_front (a b : List Int) (n : Nat) (h : a.length = n) : (a ++ b).drop n = b := by
  rw [← h, List.drop_left]
/-- A number that stands behind some bytes. -/
theorem num_at (pre post : List Int) (v : Int) (a : Nat) (ha : pre.length = a) (hv : 0 ≤ v ∧ v < 4294967296) : getOf (pre ++ (le v 4 ++ post)) (a : Int) 4 = (v, (a : Int) + 4, 0) := by
  have hL : (pre ++ (le v 4 ++ post)).length = a + 4 + post.length := by simp only [List.length_append, le_length, ha]; omega
  unfold getOf
  rw [if_neg (by omega), if_neg (by omega), if_neg (by omega), Int.toNat_natCast, drop_front _ _ _ ha, show (4 : Int).toNat = 4 from rfl, take_front _ _ 4 (le_length _ _), val_le_in _ _ ⟨hv.1, by rw [p256_4]; omega⟩]
/-- A text that stands behind some bytes. -/
theorem text_at (pre s post : List Int) (a : Nat) (ha : pre.length = a) (hs : s.length ≤ 16777216) : getTextOf (pre ++ (le (s.length : Int) 4 ++ (s ++ post))) (a : Int) = (s, (a : Int) + 4 + s.length, 0) := by
  have hL : (pre ++ (le (s.length : Int) 4 ++ (s ++ post))).length = a + 4 + s.length + post.length := by simp only [List.length_append, le_length, ha]; omega
  have hd : (pre ++ (le (s.length : Int) 4 ++ (s ++ post))).drop (a + 4) = s ++ post := by
    rw [← List.append_assoc, drop_front _ _ (a + 4) (by rw [List.length_append, le_length, ha])]
  unfold getTextOf
  simp only [num_at pre (s ++ post) (s.length : Int) a ha (by omega), ne_eq, not_true_eq_false, if_false]
  rw [if_neg (by omega), if_neg (by omega), show ((a : Int) + 4).toNat = a + 4 by omega, hd, Int.toNat_natCast, take_front _ _ _ rfl]
theorem rd_front (c : Int) (l : List Int) : rd (c :: l) 0 = c := rfl
theorem op_back (kind at_ n : Int) (data old behind : List Int) (h : okForm kind at_ n data old) :
    decOp (opBytes kind at_ n data old ++ behind) = (kind, at_, n, data, old, ((opBytes kind at_ n data old).length : Int), 0) := by
  have h' := h
  unfold okForm at h'
  obtain ⟨a0, a1, n0, n1, hd, ho, -⟩ := h'
  have hL := opBytes_length kind at_ n data old
  have e : opBytes kind at_ n data old ++ behind = [kind] ++ (le at_ 4 ++ (le n 4 ++ (le (data.length : Int) 4 ++ (data ++ (le (old.length : Int) 4 ++ (old ++ behind)))))) := by
    simp only [opBytes, List.append_assoc]
  have g1 : getOf (opBytes kind at_ n data old ++ behind) 1 4 = (at_, 5, 0) := by
    rw [e]
    exact num_at [kind] _ at_ 1 rfl (by omega)
  have g2 : getOf (opBytes kind at_ n data old ++ behind) 5 4 = (n, 9, 0) := by
    rw [e, ← List.append_assoc]
    exact num_at ([kind] ++ le at_ 4) _ n 5 (by rw [List.length_append, le_length]; rfl) (by omega)
  have t1 : getTextOf (opBytes kind at_ n data old ++ behind) 9 = (data, 9 + 4 + (data.length : Int), 0) := by
    rw [e, ← List.append_assoc, ← List.append_assoc]
    exact text_at ([kind] ++ le at_ 4 ++ le n 4) data _ 9 (by rw [List.length_append, List.length_append, le_length, le_length]; rfl) (by omega)
  have t2 : getTextOf (opBytes kind at_ n data old ++ behind) (9 + 4 + (data.length : Int)) = (old, 9 + 4 + (data.length : Int) + 4 + (old.length : Int), 0) := by
    have e2 : opBytes kind at_ n data old ++ behind = ([kind] ++ le at_ 4 ++ le n 4 ++ le (data.length : Int) 4 ++ data) ++ (le (old.length : Int) 4 ++ (old ++ behind)) := by
      rw [e]
      simp only [List.append_assoc]
    rw [e2, show (9 : Int) + 4 + (data.length : Int) = ((13 + data.length : Nat) : Int) by omega]
    exact text_at _ old behind (13 + data.length) (by simp only [List.length_append, le_length, List.length_cons, List.length_nil]) (by omega)
  have r0 : rd (opBytes kind at_ n data old ++ behind) 0 = kind := by rw [e]; rfl
  unfold decOp
  rw [if_neg (by rw [List.length_append]; omega), t1]
  dsimp only
  rw [if_pos rfl, t2]
  dsimp only
  rw [if_pos rfl, g1, g2, r0]
  dsimp only
  rw [if_pos h, hL]
  have : (9 : Int) + 4 + (data.length : Int) + 4 + (old.length : Int) = ((17 + data.length + old.length : Nat) : Int) := by omega
  rw [this]
theorem res_back (code : Int) (data behind : List Int) (h : okResult code data) : decRes (resBytes code data ++ behind) = (code, data, ((resBytes code data).length : Int), 0) := by
  have h' := h
  unfold okResult at h'
  have hL := resBytes_length code data
  have e : resBytes code data ++ behind = [code] ++ (le (data.length : Int) 4 ++ (data ++ behind)) := by
    simp only [resBytes, List.append_assoc]
  have t1 : getTextOf (resBytes code data ++ behind) 1 = (data, 1 + 4 + (data.length : Int), 0) := by
    rw [e]
    exact text_at [code] data behind 1 rfl (by omega)
  have r0 : rd (resBytes code data ++ behind) 0 = code := by rw [e]; rfl
  unfold decRes
  rw [if_neg (by rw [List.length_append]; omega), t1]
  dsimp only
  rw [if_pos rfl, r0, if_pos h, hL]
  have : (1 : Int) + 4 + (data.length : Int) = ((5 + data.length : Nat) : Int) := by omega
  rw [this]

/-! ### what is decoded is encoded so -/
theorem num_is {b : List Int} (hb : isByte b) (a : Nat) (h : a + 4 ≤ b.length) : getOf b a 4 = (val ((b.drop a).take 4), (a : Int) + 4, 0) ∧ le (getOf b a 4).1 4 = (b.drop a).take 4 := by
  have e := getOf_in b a 4 hb (by omega) (by omega) (by omega)
  rw [Int.toNat_natCast] at e
  refine ⟨e, ?_⟩
  rw [e]
  have hl : ((b.drop a).take 4).length = 4 := by rw [List.length_take, List.length_drop]; omega
  have := le_val (isByte_take 4 (isByte_drop a hb))
  rw [hl] at this
  exact this
theorem text_is {b : List Int} (hb : isByte b) (a : Nat) (h : (getTextOf b a).2.2 = 0) : ∃ m : Nat, (getTextOf b a).1.length = m ∧ (getTextOf b a).2.1 = (a : Int) + 4 + m ∧ a + 4 + m ≤ b.length ∧
    le ((getTextOf b a).1.length : Int) 4 ++ (getTextOf b a).1 = (b.drop a).take (4 + m) := by
  have hg : (getOf b a 4).2.2 = 0 := by
    unfold getTextOf at h
    dsimp only at h
    by_cases h0 : (getOf b a 4).2.2 = 0
    · exact h0
    · rw [if_pos h0] at h
      exact absurd h h0
  have r := getOf_ok hb hg
  have ha4 : a + 4 ≤ b.length := by omega
  obtain ⟨e1, e2⟩ := num_is hb a ha4
  have hp : (256 : Int) ^ (4 : Int).toNat = 4294967296 := rfl
  rw [hp] at r
  obtain ⟨m, hm⟩ : ∃ m : Nat, (getOf b a 4).1 = (m : Int) := ⟨(getOf b a 4).1.toNat, by omega⟩
  have h21 := r.2.2.2.2.1
  unfold getTextOf at h ⊢
  simp only [hg, h21, hm, ne_eq, not_true_eq_false, if_false] at h ⊢
  by_cases c1 : (16777216 : Int) < m
  · rw [if_pos c1] at h
    exact absurd h (by decide)
  · rw [if_neg c1] at h ⊢
    by_cases c2 : (b.length : Int) - (a + 4) < m
    · rw [if_pos c2] at h
      exact absurd h (by decide)
    · rw [if_neg c2]
      rw [show ((a : Int) + 4).toNat = a + 4 by omega, Int.toNat_natCast]
      have hl : ((b.drop (a + 4)).take m).length = m := by rw [List.length_take, List.length_drop]; omega
      refine ⟨m, hl, rfl, by omega, ?_⟩
      rw [hl, ← hm, e2, List.take_add, List.drop_drop]
theorem cut1 (b : List Int) (i j : Nat) : b.take (i + j) = b.take i ++ (b.drop i).take j := List.take_add
theorem cut2 (b : List Int) (i j k q : Nat) (hq : i + j = q) : (b.drop i).take (j + k) = (b.drop i).take j ++ (b.drop q).take k := by
  rw [List.take_add, List.drop_drop, hq]
theorem op_only {b : List Int} (hb : isByte b) (h : (decOp b).2.2.2.2.2.2 = 0) :
    ∃ m : Nat, m ≤ b.length ∧ (decOp b).2.2.2.2.2.1 = (m : Int) ∧ encOp (decOp b).1 (decOp b).2.1 (decOp b).2.2.1 (decOp b).2.2.2.1 (decOp b).2.2.2.2.1 = (b.take m, 0) := by
  unfold decOp at h ⊢
  by_cases h9 : b.length < 9
  · rw [if_pos h9] at h
    exact absurd h (by decide)
  rw [if_neg h9] at h ⊢
  by_cases ht : (getTextOf b 9).2.2 = 0
  · rw [if_pos ht] at h ⊢
    by_cases hu : (getTextOf b (getTextOf b 9).2.1).2.2 = 0
    · rw [if_pos hu] at h ⊢
      by_cases hk : okForm (rd b 0) (getOf b 1 4).1 (getOf b 5 4).1 (getTextOf b 9).1 (getTextOf b (getTextOf b 9).2.1).1
      · rw [if_pos hk]
        dsimp only
        obtain ⟨m1, l1, p1, b1, s1⟩ := text_is hb 9 ht
        rw [show (((9 : Nat) : Int)) = 9 from rfl] at l1 p1 s1
        have p1' : (getTextOf b 9).2.1 = ((13 + m1 : Nat) : Int) := by omega
        rw [p1'] at hu hk ⊢
        obtain ⟨m2, l2, p2, b2, s2⟩ := text_is hb (13 + m1) hu
        have n1 := (num_is hb 1 (by omega)).2
        have n2 := (num_is hb 5 (by omega)).2
        rw [show (((1 : Nat) : Int)) = 1 from rfl] at n1
        rw [show (((5 : Nat) : Int)) = 5 from rfl] at n2
        refine ⟨17 + m1 + m2, by omega, by omega, ?_⟩
        unfold encOp
        rw [if_pos hk]
        have e : opBytes (rd b 0) (getOf b 1 4).1 (getOf b 5 4).1 (getTextOf b 9).1 (getTextOf b ((13 + m1 : Nat) : Int)).1 = b.take (17 + m1 + m2) := by
          unfold opBytes
          rw [← List.append_assoc (le ((getTextOf b 9).1.length : Int) 4), s1, s2, n1, n2]
          have h1 : b.take 1 = [rd b 0] := take_rd b 0 (by omega)
          rw [← h1, show 17 + m1 + m2 = 1 + (4 + (4 + ((4 + m1) + (4 + m2)))) by omega, cut1 b 1 (4 + (4 + ((4 + m1) + (4 + m2)))), cut2 b 1 4 (4 + ((4 + m1) + (4 + m2))) 5 rfl, cut2 b 5 4 ((4 + m1) + (4 + m2)) 9 rfl, cut2 b 9 (4 + m1) (4 + m2) (13 + m1) (by omega)]
        rw [e]
      · rw [if_neg hk] at h
        exact absurd h (by decide)
    · rw [if_neg hu] at h
      exact absurd h (brk_ne _)
  · rw [if_neg ht] at h
    exact absurd h (brk_ne _)
theorem res_only {b : List Int} (hb : isByte b) (h : (decRes b).2.2.2 = 0) :
    ∃ m : Nat, m ≤ b.length ∧ (decRes b).2.2.1 = (m : Int) ∧ encRes (decRes b).1 (decRes b).2.1 = (b.take m, 0) := by
  unfold decRes at h ⊢
  by_cases h1 : b.length < 1
  · rw [if_pos h1] at h
    exact absurd h (by decide)
  rw [if_neg h1] at h ⊢
  by_cases ht : (getTextOf b 1).2.2 = 0
  · rw [if_pos ht] at h ⊢
    by_cases hk : okResult (rd b 0) (getTextOf b 1).1
    · rw [if_pos hk]
      dsimp only
      obtain ⟨m1, l1, p1, b1, s1⟩ := text_is hb 1 ht
      rw [show (((1 : Nat) : Int)) = 1 from rfl] at l1 p1 s1
      refine ⟨5 + m1, by omega, by omega, ?_⟩
      unfold encRes
      rw [if_pos hk]
      have e : resBytes (rd b 0) (getTextOf b 1).1 = b.take (5 + m1) := by
        unfold resBytes
        have h2 : b.take 1 = [rd b 0] := take_rd b 0 (by omega)
        rw [s1, ← h2, show 5 + m1 = 1 + (4 + m1) by omega, cut1 b 1 (4 + m1)]
      rw [e]
    · rw [if_neg hk] at h
      exact absurd h (by decide)
  · rw [if_neg ht] at h
    exact absurd h (brk_ne _)
theorem res_none {b : List Int} (h : (decRes b).2.2.2 ≠ 0) : (decRes b).2.2.1 = 0 ∧ (decRes b).2.1 = [] := by
  unfold decRes at h ⊢
  by_cases h1 : b.length < 1
  · rw [if_pos h1]
    exact ⟨rfl, rfl⟩
  rw [if_neg h1] at h ⊢
  by_cases ht : (getTextOf b 1).2.2 = 0
  · rw [if_pos ht] at h ⊢
    by_cases hk : okResult (rd b 0) (getTextOf b 1).1
    · rw [if_pos hk] at h
      exact absurd rfl h
    · rw [if_neg hk]
      exact ⟨rfl, rfl⟩
  · rw [if_neg ht]
    exact ⟨rfl, rfl⟩
end Go.Proofs.Ytogjpilkgghidaa.Block
