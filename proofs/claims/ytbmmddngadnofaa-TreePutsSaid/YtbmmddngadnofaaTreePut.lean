/- Trees with another digest at a place. -/
import Derived.Test.YtbmmddngadnofaaPlain
import Derived.Test.YtbmmddngadnofaaFx38
namespace Go.Proofs.Ytbmmddngadnofaa.Tree
open Go.RowKit Go.Proofs.Ytbmmddngadnofaa.F Go.Proofs.Ytbmmddngadnofaa.Bytes Go.Proofs.Ytbmmddngadnofaa.Octets Go.Proofs.YtbmmddngadnofaaW.PrintWords Go.Proofs.YtbmmddngadnofaaW.PrintLast Go.Proofs.YtbmmddngadnofaaW.PrintMore

theorem part_set (l : List Int) (i j : Nat) (d : Int) (h : i / 4 ≠ j) : part (l.set i d) j = part l j := by
  unfold part
  rw [List.take_set, List.drop_set]
  by_cases h1 : i < 4 * j
  · rw [if_pos h1]
  · rw [if_neg h1, List.set_eq_of_length_le]
    rw [List.length_drop, List.length_take]
    omega
theorem up_set (l : List Int) (i : Nat) (d : Int) : up (l.set i d) = (up l).set (i / 4) (rowD (part (l.set i d) (i / 4))) := by
  apply List.ext_getElem
  · rw [List.length_set, up_length, up_length, List.length_set]
  · intro j h1 h2
    rw [List.getElem_set]
    by_cases h : i / 4 = j
    · subst h
      rw [if_pos rfl]
      simp [up]
    · rw [if_neg h]
      simp only [up, List.getElem_map, List.getElem_range]
      rw [part_set l i j d h]
theorem isDig_set {l : List Int} (h : isDig l) (i : Nat) {d : Int} (hd : 0 ≤ d ∧ d ≤ 4294967295) : isDig (l.set i d) := by
  intro x hx
  rcases List.mem_or_eq_of_mem_set hx with hx | rfl
  · exact h x hx
  · exact hd
theorem put_from (t : List (List Int)) (_ : t.length ≤ 100) (n : Nat) : ∀ (l : List Int) (j i : Nat) (d : Int) (acc : List (List Int)), t.drop j = lv n l → (n = 0 → t.length ≤ j) → j ≤ t.length → i < l.length → l.length ≤ 4096 → isDig l → (0 ≤ d ∧ d ≤ 4294967295) → acc.length + n < 1000 →
    Ev (fun k => tree_Put.l0 k t (j : Int) (i : Int) d acc) (acc ++ lv n (l.set i d)) := by
  have hend : ∀ (j i : Nat) (d : Int) (acc : List (List Int)), t.length ≤ j → Ev (fun k => tree_Put.l0 k t (j : Int) (i : Int) d acc) acc := by
    intro j i d acc h
    refine Ev.step (f := fun _ => some acc) (fun k => ?_) (Ev.now _)
    rw [tree_Put.l0, if_neg (by omega)]
  induction n with
  | zero =>
    intro l j i d acc _ h0 _ _ _ _ _ _
    rw [lv, List.append_nil]
    exact hend j i d acc (h0 rfl)
  | succ n ih =>
    intro l j i d acc hj _ hjt hi hl hdig hd ha
    rw [lv] at hj
    have hlt : j < t.length := by
      have h1 := congrArg List.length hj
      rw [List.length_drop, List.length_cons] at h1
      omega
    rw [drop_L1 t j hlt] at hj
    obtain ⟨hr, hrest⟩ := List.cons.inj hj
    have hc : slices_Clone_uint32_uint32.f l = some l := by rw [slices_Clone_uint32_uint32.f, Option.bind_some, if_pos (by simp; omega), List.nil_append]
    have hrow := row_ (l.set i d) i (by rw [List.length_set]; exact hi) (by rw [List.length_set]; omega)
    have e4 : (i : Int) / 4 = ((i / 4 : Nat) : Int) := by omega
    have en : (j : Int) + 1 = ((j + 1 : Nat) : Int) := by omega
    refine Ev.step (f := fun k => (tree_Row.f k (part (l.set i d) (i / 4))).bind fun d' => tree_Put.l0 k t ((j + 1 : Nat) : Int) ((i / 4 : Nat) : Int) d' (acc ++ [l.set i d])) (fun k => ?_) ?_
    · rw [tree_Put.l0, if_pos (by omega), hr, if_pos (by omega), if_pos (by omega), if_pos (by omega), hc, Option.bind_some, if_pos rfl, Int.toNat_natCast, hrow, Option.bind_some, e4, en]
    · refine Ev.bind (Row_ _ (part_dig (isDig_set hdig i hd) _) (by have := part_length (l.set i d) (i / 4); omega)) ?_
      by_cases h1 : 1 < l.length
      · rw [if_pos h1] at hrest
        rw [lv, if_pos (by rw [List.length_set]; exact h1), up_set, show acc ++ l.set i d :: lv n ((up l).set (i / 4) (rowD (part (l.set i d) (i / 4)))) = (acc ++ [l.set i d]) ++ lv n ((up l).set (i / 4) (rowD (part (l.set i d) (i / 4)))) by simp]
        refine ih (up l) (j + 1) (i / 4) _ _ hrest (fun h0 => ?_) (by omega) (by rw [up_length]; omega) (by rw [up_length]; omega) (up_dig l) (rowD_range _) (by simp; omega)
        subst h0
        have h1 := congrArg List.length hrest
        rw [List.length_drop, lv, List.length_nil] at h1
        omega
      · rw [if_neg h1] at hrest
        rw [lv, if_neg (by rw [List.length_set]; exact h1)]
        refine hend _ _ _ _ ?_
        have h1 := congrArg List.length hrest
        rw [List.length_drop, List.length_nil] at h1
        omega
def putT (t : List (List Int)) (i d : Int) : List (List Int) × Int := if good t then (if 0 ≤ i ∧ i < ((base t).length : Int) then (tree ((base t).set i.toNat d), 0) else ([], 5)) else ([], 250)
theorem PutT_ (t : List (List Int)) (ht : thin t) (hd : ∀ r ∈ t, isDig r) (i d : Int) (hdd : 0 ≤ d ∧ d ≤ 4294967295) : Ev (fun k => tree_Put.f k t i d) (putT t i d) := by
  unfold tree_Put.f putT
  refine Ev.bind (at_ t ht hd i) ?_
  unfold atOf
  by_cases h : good t
  · have hl := good_length h
    simp only [if_pos h]
    by_cases hi : 0 ≤ i ∧ i < ((base t).length : Int)
    · simp only [if_pos hi, if_true]
      obtain ⟨m, rfl⟩ : ∃ m : Nat, i = (m : Int) := ⟨i.toNat, by omega⟩
      have := put_from t (by omega) 7 (base t) 0 m d [] (by rw [List.drop_zero]; exact h.2) (fun h0 => by omega) (by omega) (by omega) h.1.2 (hd _ (base_in (by omega))) hdd (by simp)
      rw [List.nil_append] at this
      rw [Int.toNat_natCast]
      exact Ev.bind (f := fun _ r => some (r, (0 : Int))) this (Ev.now _)
    · simp only [if_neg hi]
      exact Ev.now _
  · simp only [if_neg h]
    exact Ev.now _
theorem putT_slim {t : List (List Int)} (hs : ∀ r ∈ t, isDig r) {i d : Int} (hd : 0 ≤ d ∧ d ≤ 4294967295) : slim (putT t i d).1 := by
  unfold putT
  split
  · rename_i h
    split
    · exact tree_slim (isDig_set (hs _ (base_in (good_ne h))) _ hd) (by rw [List.length_set]; exact h.1.2)
    · exact ⟨by simp, fun r hr => by cases hr⟩
  · exact ⟨by simp, fun r hr => by cases hr⟩
end Go.Proofs.Ytbmmddngadnofaa.Tree
