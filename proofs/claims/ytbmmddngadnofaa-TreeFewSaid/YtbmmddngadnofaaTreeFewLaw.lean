/- Where few places differ, few pairs are looked at; and what is found differs. -/
import Derived.Test.YtbmmddngadnofaaTreeDiff
import Derived.Test.YtbmmddngadnofaaTreePut
namespace Go.Proofs.Ytbmmddngadnofaa.Tree
open Go.RowKit Go.Proofs.Ytbmmddngadnofaa.F Go.Proofs.Ytbmmddngadnofaa.Bytes Go.Proofs.Ytbmmddngadnofaa.Octets Go.Proofs.YtbmmddngadnofaaW.PrintWords Go.Proofs.YtbmmddngadnofaaW.PrintLast Go.Proofs.YtbmmddngadnofaaW.PrintMore

/-- Two rows are alike but at some places. -/
def agree (ts : List Nat) (l m : List Int) : Prop := l.length = m.length ∧ ∀ i : Nat, i ∉ ts → rd l (i : Int) = rd m (i : Int)
theorem agree_refl (l : List Int) : agree [] l l := ⟨rfl, fun _ _ => rfl⟩
theorem agree_set {ts : List Nat} {l m : List Int} (h : agree ts l m) (i : Nat) (d : Int) : agree (i :: ts) l (m.set i d) := by
  refine ⟨by rw [List.length_set]; exact h.1, fun j hj => ?_⟩
  rw [List.mem_cons, not_or] at hj
  rw [h.2 j hj.2]
  simp only [rd, Int.toNat_natCast, List.getD_eq_getElem?_getD]
  rw [List.getElem?_set_ne (Ne.symm hj.1)]
theorem part_agree {ts : List Nat} {l m : List Int} (h : agree ts l m) (j : Nat) (hj : j ∉ ts.map (· / 4)) : part l j = part m j := by
  have hlen := h.1
  apply List.ext_getElem
  · simp only [part, List.length_drop, List.length_take, hlen]
  · intro i h1 h2
    have hi : 4 * j + i < l.length ∧ i < 4 := by
      simp only [part, List.length_drop, List.length_take] at h1
      omega
    have := h.2 (4 * j + i) (fun hm => hj (List.mem_map.2 ⟨4 * j + i, hm, by omega⟩))
    rw [rd_nat l _ hi.1, rd_nat m _ (by omega)] at this
    simpa [part] using this
theorem up_agree {ts : List Nat} {l m : List Int} (h : agree ts l m) : agree (ts.map (· / 4)) (up l) (up m) := by
  refine ⟨by rw [up_length, up_length, h.1], fun j hj => ?_⟩
  by_cases hlt : j < (l.length + 3) / 4
  · rw [rd_up l j hlt, rd_up m j (by rw [← h.1]; exact hlt), part_agree h j hj]
  · have h1 : ¬ j < (up l).length := by rw [up_length]; exact hlt
    have h2 : ¬ j < (up m).length := by rw [up_length, ← h.1]; exact hlt
    simp [rd, h1, h2]
def under (k : Nat) (ts : List Nat) : List Nat := ts.map (· / 4 ^ k)
theorem under_zero (ts : List Nat) : under 0 ts = ts := by
  have : (fun x : Nat => x / 4 ^ 0) = id := by funext x; simp
  rw [under, this, List.map_id]
theorem under_succ (k : Nat) (ts : List Nat) : under (k + 1) ts = under k (ts.map (· / 4)) := by
  simp only [under, List.map_map]
  apply List.map_congr_left
  intro x _
  show x / 4 ^ (k + 1) = x / 4 / 4 ^ k
  rw [Nat.div_div_eq_div_mul, Nat.pow_succ, Nat.mul_comm]
theorem lv_agree (n : Nat) : ∀ (ts : List Nat) (l m : List Int), agree ts l m → ∀ k i : Nat, i ∉ under k ts → rd (rd_L1 (lv n l) (k : Int)) (i : Int) = rd (rd_L1 (lv n m) (k : Int)) (i : Int) := by
  induction n with
  | zero => intro ts l m _ k i _; rfl
  | succ n ih =>
    intro ts l m h k i hi
    rw [lv, lv]
    cases k with
    | zero =>
      rw [under_zero] at hi
      exact h.2 i hi
    | succ k =>
      rw [under_succ] at hi
      by_cases h1 : 1 < l.length
      · rw [if_pos h1, if_pos (by rw [← h.1]; exact h1)]
        exact ih _ _ _ (up_agree h) k i hi
      · rw [if_neg h1, if_neg (by rw [← h.1]; exact h1)]
        rfl
theorem ne_under {ts : List Nat} {l m : List Int} (h : agree ts l m) {k i : Nat} (hn : ne (tree l) (tree m) k i = true) : i ∈ under k ts := by
  by_cases hi : i ∈ under k ts
  · exact hi
  · have := lv_agree 7 ts l m h k i hi
    exact absurd hn (by simp only [ne, tree, this, bne_self_eq_false]; decide)
/-- How many of some places lie under a place. -/
def tau (ts : List Nat) (k i : Nat) : Nat := (ts.filter fun t => t / 4 ^ k == i).length
theorem tau_pos {ts : List Nat} {k i : Nat} (h : i ∈ under k ts) : 1 ≤ tau ts k i := by
  obtain ⟨t, ht, hte⟩ := List.mem_map.1 h
  exact List.length_pos_of_mem (List.mem_filter.2 ⟨ht, by simpa using hte⟩)
theorem tau_le (ts : List Nat) (k i : Nat) : tau ts k i ≤ ts.length := List.length_filter_le _ _
theorem tau_four (ts : List Nat) (k i : Nat) : tau ts k (4 * i) + tau ts k (4 * i + 1) + tau ts k (4 * i + 2) + tau ts k (4 * i + 3) ≤ tau ts (k + 1) i := by
  induction ts with
  | nil => simp [tau]
  | cons t ts ih =>
    have hd : t / 4 ^ (k + 1) = t / 4 ^ k / 4 := by rw [Nat.pow_succ, ← Nat.div_div_eq_div_mul]
    simp only [tau, List.filter_cons] at ih ⊢
    rw [hd]
    generalize t / 4 ^ k = q
    by_cases h : q / 4 = i
    · simp only [show (q / 4 == i) = true from beq_iff_eq.mpr h, if_true, List.length_cons]
      have h4 : q = 4 * i ∨ q = 4 * i + 1 ∨ q = 4 * i + 2 ∨ q = 4 * i + 3 := by omega
      rcases h4 with h4 | h4 | h4 | h4 <;> subst h4 <;>
      · have e0 : ∀ x y : Nat, x ≠ y → (x == y) = false := fun x y hxy => beq_eq_false_iff_ne.mpr hxy
        simp (disch := omega) only [beq_self_eq_true, if_true, e0, Bool.false_eq_true, if_false, List.length_cons]
        omega
    · have e0 : ∀ x : Nat, x / 4 = i → (q == x) = false := fun x hx => beq_eq_false_iff_ne.mpr (fun hq => h (by rw [hq]; exact hx))
      rw [e0 (4 * i) (by omega), e0 (4 * i + 1) (by omega), e0 (4 * i + 2) (by omega), e0 (4 * i + 3) (by omega), show (q / 4 == i) = false from beq_eq_false_iff_ne.mpr h]
      simpa using ih
theorem chs_sum (a : List (List Int)) (f : Nat → Nat) (k i : Nat) : ((chs a k i 0 4).map f).sum ≤ f (4 * i) + f (4 * i + 1) + f (4 * i + 2) + f (4 * i + 3) := by
  have step : ∀ n r, ((chs a k i n (r + 1)).map f).sum ≤ f (4 * i + n) + ((chs a k i (n + 1) r).map f).sum := by
    intro n r
    rw [chs_succ]
    split
    · rw [List.map_cons, List.sum_cons]
      omega
    · omega
  have h0 : ((chs a k i 0 4).map f).sum ≤ f (4 * i) + ((chs a k i 1 3).map f).sum := step 0 3
  have h1 : ((chs a k i 1 3).map f).sum ≤ f (4 * i + 1) + ((chs a k i 2 2).map f).sum := step 1 2
  have h2 : ((chs a k i 2 2).map f).sum ≤ f (4 * i + 2) + ((chs a k i 3 1).map f).sum := step 2 1
  have h3 : ((chs a k i 3 1).map f).sum ≤ f (4 * i + 3) + 0 := step 3 0
  omega
theorem flat_len (f : Nat → List Nat) (l : List Nat) : (l.flatMap f).length = (l.map fun i => (f i).length).sum := by
  induction l with
  | nil => rfl
  | cons x l ih => rw [List.flatMap_cons, List.length_append, ih, List.map_cons, List.sum_cons]
theorem fnd_tau {ts : List Nat} {l m : List Int} (h : agree ts l m) (k : Nat) : ∀ i, (fnd (tree l) (tree m) k i).length ≤ tau ts k i := by
  induction k with
  | zero =>
    intro i
    rw [fnd]
    split
    · rename_i hn
      exact tau_pos (ne_under h hn)
    · simp
  | succ k ih =>
    intro i
    rw [fnd]
    split
    · rw [flat_len]
      have h1 := chs_sum (tree l) (fun i => (fnd (tree l) (tree m) k i).length) k i
      have h2 := tau_four ts k i
      have := ih (4 * i)
      have := ih (4 * i + 1)
      have := ih (4 * i + 2)
      have := ih (4 * i + 3)
      omega
    · simp
theorem cnt_tau {ts : List Nat} {l m : List Int} (h : agree ts l m) (k : Nat) : ∀ i, cnt (tree l) (tree m) k i ≤ 1 + 4 * (k * tau ts k i) := by
  induction k with
  | zero => intro i; rw [cnt]; omega
  | succ k ih =>
    intro i
    rw [cnt]
    split
    · rename_i hn
      have hp := tau_pos (ne_under h hn)
      have h1 := chs_sum (tree l) (cnt (tree l) (tree m) k) k i
      have h2 := Nat.mul_le_mul_left k (tau_four ts k i)
      rw [Nat.mul_add, Nat.mul_add, Nat.mul_add] at h2
      have := ih (4 * i)
      have := ih (4 * i + 1)
      have := ih (4 * i + 2)
      have := ih (4 * i + 3)
      rw [Nat.add_mul, Nat.one_mul]
      omega
    · omega
theorem fnd_in (a b : List (List Int)) (k : Nat) : ∀ i, i < (rd_L1 a (k : Int)).length → ∀ j ∈ fnd a b k i, j < (rd_L1 a 0).length ∧ ne a b 0 j = true := by
  induction k with
  | zero =>
    intro i hi j hj
    rw [fnd] at hj
    split at hj
    · rename_i hn
      obtain rfl := List.mem_singleton.1 hj
      exact ⟨hi, hn⟩
    · cases hj
  | succ k ih =>
    intro i _ j hj
    rw [fnd] at hj
    split at hj
    · obtain ⟨c, hc, hcj⟩ := List.mem_flatMap.1 hj
      unfold chs at hc
      exact ih c (by simpa using (List.mem_filter.1 hc).2) j hcj
    · cases hj
end Go.Proofs.Ytbmmddngadnofaa.Tree
