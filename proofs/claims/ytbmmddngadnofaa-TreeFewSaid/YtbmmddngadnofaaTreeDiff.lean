/- Where two trees differ: down the trees place by place (the program) and level by level (the reference) tell the same. -/
import Derived.Test.YtbmmddngadnofaaPlain
import Derived.Test.YtbmmddngadnofaaFx37
import Derived.Test.YtbmmddngadnofaaFx38
import Derived.Test.YtbmmddngadnofaaFx39
namespace Go.Proofs.Ytbmmddngadnofaa.Tree
open Go.RowKit Go.Proofs.Ytbmmddngadnofaa.F Go.Proofs.Ytbmmddngadnofaa.Bytes Go.Proofs.Ytbmmddngadnofaa.Octets Go.Proofs.YtbmmddngadnofaaW.PrintWords Go.Proofs.YtbmmddngadnofaaW.PrintLast Go.Proofs.YtbmmddngadnofaaW.PrintMore

def toI (l : List Nat) : List Int := l.map fun (i : Nat) => (i : Int)
theorem toI_length (l : List Nat) : (toI l).length = l.length := by simp [toI]
theorem toI_append (l m : List Nat) : toI (l ++ m) = toI l ++ toI m := by simp [toI]
theorem rd_toI (l : List Nat) (i : Nat) (h : i < l.length) : rd (toI l) (i : Int) = (l[i] : Int) := by
  rw [rd_nat _ _ (by rw [toI_length]; exact h)]
  simp [toI]
section
variable (a b : List (List Int))
/-- The rows of the trees differ at a place. -/
def ne (k i : Nat) : Bool := rd (rd_L1 a (k : Int)) (i : Int) != rd (rd_L1 b (k : Int)) (i : Int)
/-- The places below a place, from the nth on, r of them at most. -/
def chs (k i n r : Nat) : List Nat := ((List.range' n r).map (4 * i + ·)).filter (· < (rd_L1 a (k : Int)).length)
def fnd : Nat → Nat → List Nat
  | 0, i => if ne a b 0 i then [i] else []
  | k + 1, i => if ne a b (k + 1) i then (chs a k i 0 4).flatMap (fnd k) else []
def cnt : Nat → Nat → Nat
  | 0, _ => 1
  | k + 1, i => 1 + (if ne a b (k + 1) i then ((chs a k i 0 4).map (cnt k)).sum else 0)
def bnd : Nat → Nat
  | 0 => 1
  | k + 1 => 1 + 4 * bnd k
theorem chs_zero (k i n : Nat) : chs a k i n 0 = [] := rfl
theorem chs_succ (k i n r : Nat) : chs a k i n (r + 1) = if 4 * i + n < (rd_L1 a (k : Int)).length then (4 * i + n) :: chs a k i (n + 1) r else chs a k i (n + 1) r := by
  unfold chs
  rw [List.range'_succ, List.map_cons, List.filter_cons]
  simp
theorem chs_none (k i : Nat) (r : Nat) : ∀ n, ¬ 4 * i + n < (rd_L1 a (k : Int)).length → chs a k i n r = [] := by
  induction r with
  | zero => intro n _; rfl
  | succ r ih =>
    intro n h
    rw [chs_succ, if_neg h]
    exact ih (n + 1) (by omega)
theorem chs_length (k i n r : Nat) : (chs a k i n r).length ≤ r := by
  unfold chs
  refine Nat.le_trans (List.length_filter_le _ _) ?_
  simp
theorem sum_le (f : Nat → Nat) (m : Nat) (h : ∀ i, f i ≤ m) (l : List Nat) : (l.map f).sum ≤ l.length * m := by
  induction l with
  | nil => simp
  | cons x l ih =>
    rw [List.map_cons, List.sum_cons, List.length_cons, Nat.add_mul, Nat.one_mul]
    have := h x
    omega
theorem flat_le (f : Nat → List Nat) (m : Nat) (h : ∀ i, (f i).length ≤ m) (l : List Nat) : (l.flatMap f).length ≤ l.length * m := by
  induction l with
  | nil => simp
  | cons x l ih =>
    rw [List.flatMap_cons, List.length_append, List.length_cons, Nat.add_mul, Nat.one_mul]
    have := h x
    omega
theorem cnt_le (k : Nat) : ∀ i, cnt a b k i ≤ bnd k := by
  induction k with
  | zero => intro i; exact Nat.le_refl _
  | succ k ih =>
    intro i
    rw [cnt, bnd]
    split
    · have h1 := sum_le (cnt a b k) (bnd k) ih (chs a k i 0 4)
      have h2 := Nat.mul_le_mul_right (bnd k) (chs_length a k i 0 4)
      omega
    · omega
theorem fnd_le (k : Nat) : ∀ i, (fnd a b k i).length ≤ bnd k := by
  induction k with
  | zero => intro i; rw [fnd]; split <;> simp [bnd]
  | succ k ih =>
    intro i
    rw [fnd, bnd]
    split
    · have h1 := flat_le (fnd a b k) (bnd k) ih (chs a k i 0 4)
      have h2 := Nat.mul_le_mul_right (bnd k) (chs_length a k i 0 4)
      omega
    · simp
/-! ### place by place -/
theorem run_ (k i : Nat) (f : Nat → Int → Int → List Int → Option (Int × List Int)) (X : Nat)
    (hf : ∀ (n p : Nat) (fs : List Int), 4 * i + n < (rd_L1 a (k : Int)).length → p + bnd k ≤ X → fs.length + bnd k ≤ X → Ev (fun m => f m (n : Int) (p : Int) fs) (((p + cnt a b k (4 * i + n) : Nat) : Int), fs ++ toI (fnd a b k (4 * i + n))))
    (hg : ∀ (n p : Nat) (fs : List Int), ¬ 4 * i + n < (rd_L1 a (k : Int)).length → Ev (fun m => f m (n : Int) (p : Int) fs) ((p : Int), fs)) (r : Nat) :
    ∀ (n p : Nat) (fs : List Int), p + r * bnd k ≤ X → fs.length + r * bnd k ≤ X →
    Ev (fun m => tree_Diff.run (f m) r (n : Int) (p : Int) fs) (((p + ((chs a k i n r).map (cnt a b k)).sum : Nat) : Int), fs ++ toI ((chs a k i n r).flatMap (fnd a b k))) := by
  induction r with
  | zero =>
    intro n p fs _ _
    rw [chs_zero]
    simp only [List.map_nil, List.sum_nil, Nat.add_zero, List.flatMap_nil, toI, List.append_nil]
    exact Ev.now _
  | succ r ih =>
    intro n p fs hp hs
    rw [Nat.add_mul, Nat.one_mul] at hp hs
    have hn : (n : Int) + 1 = ((n + 1 : Nat) : Int) := by omega
    by_cases h : 4 * i + n < (rd_L1 a (k : Int)).length
    · refine Ev.bind (hf n p fs h (by omega) (by omega)) ?_
      simp only [hn]
      have hc := cnt_le a b k (4 * i + n)
      have hl := fnd_le a b k (4 * i + n)
      have := ih (n + 1) (p + cnt a b k (4 * i + n)) (fs ++ toI (fnd a b k (4 * i + n))) (by omega) (by rw [List.length_append, toI_length]; omega)
      rw [chs_succ, if_pos h, List.map_cons, List.sum_cons, List.flatMap_cons, toI_append, ← List.append_assoc, ← Nat.add_assoc]
      exact this
    · refine Ev.bind (hg n p fs h) ?_
      simp only [hn]
      rw [chs_succ, if_neg h]
      exact ih (n + 1) p fs (by omega) (by omega)
theorem dn_ (hab : a.length = b.length) (hl : ∀ k : Nat, k < a.length → (rd_L1 a (k : Int)).length = (rd_L1 b (k : Int)).length ∧ (rd_L1 a (k : Int)).length ≤ 4096) (k : Nat) : ∀ (i p : Nat) (fs : List Int), k < a.length → i < (rd_L1 a (k : Int)).length → p + bnd k ≤ 100000000 → fs.length + bnd k ≤ 100000000 →
    Ev (fun m => tree_Diff.dn m a b (p : Int) fs (k : Int) (i : Int)) (((p + cnt a b k i : Nat) : Int), fs ++ toI (fnd a b k i)) := by
  induction k with
  | zero =>
    intro i p fs hk hi hp hs
    have h0 := hl 0 hk
    refine Ev.step (f := fun _ => some (((p + 1 : Nat) : Int), fs ++ toI (fnd a b 0 i))) (fun m => ?_) (Ev.now _)
    simp only [bnd] at hp hs
    rw [tree_Diff.dn, if_pos (by omega), if_pos (by omega), if_pos (by omega), if_pos (by omega), if_pos (by omega), if_pos (by omega), if_pos (by omega), if_pos (by omega), if_pos (by omega)]
    by_cases he : rd (rd_L1 a ((0 : Nat) : Int)) (i : Int) = rd (rd_L1 b ((0 : Nat) : Int)) (i : Int)
    · rw [if_pos he, fnd, if_neg (by simp only [ne, he, bne_self_eq_false]; decide)]
      simp [toI]
    · rw [if_neg he, if_pos (show ((0 : Nat) : Int) = 0 from rfl), if_pos (by omega), fnd, if_pos (by simp only [ne]; exact bne_iff_ne.mpr he)]
      rfl
  | succ k ih =>
    intro i p fs hk hi hp hs
    have h1 := hl (k + 1) hk
    have h0 := hl k (by omega)
    simp only [bnd] at hp hs
    by_cases he : rd (rd_L1 a ((k + 1 : Nat) : Int)) (i : Int) = rd (rd_L1 b ((k + 1 : Nat) : Int)) (i : Int)
    · refine Ev.step (f := fun _ => some (((p + 1 : Nat) : Int), fs)) (fun m => ?_) ?_
      · rw [tree_Diff.dn, if_pos (by omega), if_pos (by omega), if_pos (by omega), if_pos (by omega), if_pos (by omega), if_pos (by omega), if_pos (by omega), if_pos (by omega), if_pos (by omega), if_pos he]
        rfl
      · have hn : ¬ ne a b (k + 1) i = true := by simp only [ne, he, bne_self_eq_false]; decide
        rw [cnt, fnd, if_neg hn, if_neg hn]
        simp only [toI, List.map_nil, List.append_nil, Nat.add_zero]
        exact Ev.now _
    · have hn : ne a b (k + 1) i = true := by simp only [ne]; exact bne_iff_ne.mpr he
      have e1 : ((k + 1 : Nat) : Int) - 1 = (k : Int) := by omega
      refine Ev.step (f := fun m => tree_Diff.run (fun n p fs => if (i : Int) * 4 + n < ((rd_L1 a (k : Int)).length : Int) then tree_Diff.dn m a b p fs (k : Int) ((i : Int) * 4 + n) else some (p, fs)) 4 ((0 : Nat) : Int) ((p + 1 : Nat) : Int) fs) (fun m => ?_) ?_
      · rw [tree_Diff.dn, if_pos (by omega), if_pos (by omega), if_pos (by omega), if_pos (by omega), if_pos (by omega), if_pos (by omega), if_pos (by omega), if_pos (by omega), if_pos (by omega), if_neg he, if_neg (by omega), e1]
        rfl
      · have := run_ a b k i (fun m n p fs => if (i : Int) * 4 + n < ((rd_L1 a (k : Int)).length : Int) then tree_Diff.dn m a b p fs (k : Int) ((i : Int) * 4 + n) else some (p, fs)) 100000000
          (fun n p fs h hp hs => by
            have e2 : (i : Int) * 4 + (n : Int) = ((4 * i + n : Nat) : Int) := by omega
            simp only [e2, if_pos (show ((4 * i + n : Nat) : Int) < ((rd_L1 a (k : Int)).length : Int) by omega)]
            exact ih (4 * i + n) p fs (by omega) h hp hs)
          (fun n p fs h => by
            simp only [if_neg (show ¬ (i : Int) * 4 + (n : Int) < ((rd_L1 a (k : Int)).length : Int) by omega)]
            exact Ev.now _) 4 0 (p + 1) fs (by omega) (by omega)
        rw [cnt, fnd, if_pos hn, if_pos hn, ← Nat.add_assoc]
        exact this
/-! ### level by level -/
theorem down_one (k : Nat) (hk : k ≤ 1000) : wrap64 (((k + 1 : Nat) : Int) - 1) = (k : Int) := by
  unfold wrap64
  omega
theorem place4 (i n : Nat) (hi : i ≤ 4096) (hn : n ≤ 4) : wrap64 (wrap64 ((i : Int) * 4) + (n : Int)) = ((4 * i + n : Nat) : Int) := by
  rw [show wrap64 ((i : Int) * 4) = ((4 * i : Nat) : Int) by unfold wrap64; omega]
  unfold wrap64
  omega
theorem next_small (i : Nat) (hi : i ≤ 1000000000) : wrap64 ((i : Int) + 1) = ((i + 1 : Nat) : Int) := wrap_next i (i + 1) (by omega) (by omega)
theorem ref_below (k j : Nat) (ps : List Nat) (hk : k + 1 < a.length) (ha : a.length ≤ 7) (p : Int) (hj : j < ps.length) (hps : ps.length ≤ 1000000) (hi : ps[j] ≤ 4096) (R : List Int × Int × Int) (r : Nat) : ∀ (n : Nat) (acc : List Nat), n + r = 4 → acc.length + r ≤ 1000000 →
    Ev (fun m => plinthref25_Diff.l2 m (toI ps) p ((k + 1 : Nat) : Int) (toI (acc ++ chs a k ps[j] n r)) ((j + 1 : Nat) : Int) a b) R →
    Ev (fun m => plinthref25_Diff.l3 m (toI ps) p ((k + 1 : Nat) : Int) (toI acc) (j : Int) (n : Int) a b) R := by
  have hjp := rd_toI ps j hj
  induction r with
  | zero =>
    intro n acc hn _ h
    rw [chs_zero, List.append_nil] at h
    refine Ev.step (fun m => ?_) h
    rw [plinthref25_Diff.l3, if_neg (by omega), next_small j (by omega)]
  | succ r ih =>
    intro n acc hn hc h
    rw [chs_succ] at h
    by_cases hl : 4 * ps[j] + n < (rd_L1 a (k : Int)).length
    · rw [if_pos hl] at h
      refine Ev.step (f := fun m => plinthref25_Diff.l3 m (toI ps) p ((k + 1 : Nat) : Int) (toI (acc ++ [4 * ps[j] + n])) (j : Int) ((n + 1 : Nat) : Int) a b) (fun m => ?_) ?_
      · rw [plinthref25_Diff.l3, if_pos (by omega), if_pos (by omega), if_pos (by rw [toI_length]; omega), down_one k (by omega), if_pos (by omega), if_pos (by omega), hjp, place4 _ n hi (by omega), if_pos (by omega), if_pos (by rw [toI_length]; omega), next_small n (by omega), toI_append]
        rfl
      · exact ih (n + 1) _ (by omega) (by simp; omega) (by rw [List.append_assoc]; exact h)
    · rw [if_neg hl, chs_none a k _ r (n + 1) (by omega), List.append_nil] at h
      refine Ev.step (fun m => ?_) h
      rw [plinthref25_Diff.l3, if_pos (by omega), if_pos (by omega), if_pos (by rw [toI_length]; omega), down_one k (by omega), if_pos (by omega), if_pos (by omega), hjp, place4 _ n hi (by omega), if_neg (by omega), next_small j (by omega)]
theorem ref_spread (k : Nat) (ps : List Nat) (hk : k + 1 < a.length) (ha : a.length ≤ 7) (p : Int) (hps : ps.length ≤ 100000) (hi : ∀ i ∈ ps, i ≤ 4096) (R : List Int × Int × Int) (d : Nat) : ∀ (j : Nat) (acc : List Nat), j + d = ps.length → acc.length + 4 * d ≤ 1000000 →
    Ev (fun m => plinthref25_Diff.l0 m (toI (acc ++ (ps.drop j).flatMap (fun i => chs a k i 0 4))) p (k : Int) a b) R →
    Ev (fun m => plinthref25_Diff.l2 m (toI ps) p ((k + 1 : Nat) : Int) (toI acc) (j : Int) a b) R := by
  induction d with
  | zero =>
    intro j acc hj _ h
    rw [List.drop_of_length_le (by omega), List.flatMap_nil, List.append_nil] at h
    refine Ev.step (fun m => ?_) h
    rw [plinthref25_Diff.l2, if_neg (by rw [toI_length]; omega), down_one k (by omega)]
  | succ d ih =>
    intro j acc hj hc h
    have hlt : j < ps.length := by omega
    rw [List.drop_eq_getElem_cons hlt, List.flatMap_cons, ← List.append_assoc] at h
    refine Ev.step (f := fun m => plinthref25_Diff.l3 m (toI ps) p ((k + 1 : Nat) : Int) (toI acc) (j : Int) ((0 : Nat) : Int) a b) (fun m => ?_) ?_
    · rw [plinthref25_Diff.l2, if_pos (by rw [toI_length]; omega)]
      rfl
    · refine ref_below a b k j ps hk ha p hlt (by omega) (hi _ (List.getElem_mem hlt)) R 4 0 acc (by omega) (by omega) ?_
      have := chs_length a k ps[j] 0 4
      exact ih (j + 1) _ (by omega) (by rw [List.length_append]; omega) h
theorem ref_hold (k : Nat) (ps : List Nat) (hk : k < a.length) (hab : a.length = b.length) (_ : a.length ≤ 7) (hps : ps.length ≤ 100000) (hi : ∀ i ∈ ps, i < (rd_L1 a (k : Int)).length ∧ i < (rd_L1 b (k : Int)).length) (R : List Int × Int × Int) (d : Nat) : ∀ (j p : Nat) (acc : List Nat), j + d = ps.length → acc.length + d ≤ 1000000 → p + d ≤ 1000000000 →
    Ev (fun m => if ((k : Nat) : Int) = 0 then some (toI (acc ++ (ps.drop j).filter (ne a b k)), (((p + d : Nat) : Int)), 0) else plinthref25_Diff.l2 m (toI (acc ++ (ps.drop j).filter (ne a b k))) (((p + d : Nat) : Int)) (k : Int) [] 0 a b) R →
    Ev (fun m => plinthref25_Diff.l1 m (toI ps) (p : Int) (k : Int) (toI acc) (j : Int) a b) R := by
  induction d with
  | zero =>
    intro j p acc hj _ _ h
    rw [List.drop_of_length_le (by omega), List.filter_nil, List.append_nil, Nat.add_zero] at h
    refine Ev.step (fun m => ?_) h
    rw [plinthref25_Diff.l1, if_neg (by rw [toI_length]; omega)]
  | succ d ih =>
    intro j p acc hj hc hp h
    have hlt : j < ps.length := by omega
    have hjp := rd_toI ps j hlt
    have hin := hi _ (List.getElem_mem hlt)
    rw [List.drop_eq_getElem_cons hlt, List.filter_cons] at h
    by_cases he : rd (rd_L1 a (k : Int)) (ps[j] : Int) = rd (rd_L1 b (k : Int)) (ps[j] : Int)
    · have hn : ¬ ne a b k ps[j] = true := by simp [ne, he]
      rw [if_neg hn] at h
      refine Ev.step (f := fun m => plinthref25_Diff.l1 m (toI ps) ((p + 1 : Nat) : Int) (k : Int) (toI acc) ((j + 1 : Nat) : Int) a b) (fun m => ?_) ?_
      · rw [plinthref25_Diff.l1, if_pos (by rw [toI_length]; omega), if_pos (by omega), if_pos (by omega), if_pos (by omega), hjp, if_pos (by omega), if_pos (by omega), if_pos (by omega), if_pos (by omega), if_pos he, next_small j (by omega), next_small p (by omega)]
      · exact ih (j + 1) (p + 1) acc (by omega) (by omega) (by omega) (by rw [show p + 1 + d = p + (d + 1) by omega]; exact h)
    · have hn : ne a b k ps[j] = true := by simp only [ne]; exact bne_iff_ne.mpr he
      rw [if_pos hn] at h
      refine Ev.step (f := fun m => plinthref25_Diff.l1 m (toI ps) ((p + 1 : Nat) : Int) (k : Int) (toI (acc ++ [ps[j]])) ((j + 1 : Nat) : Int) a b) (fun m => ?_) ?_
      · rw [plinthref25_Diff.l1, if_pos (by rw [toI_length]; omega), if_pos (by omega), if_pos (by omega), if_pos (by omega), hjp, if_pos (by omega), if_pos (by omega), if_pos (by omega), if_pos (by omega), if_neg he, if_pos (by rw [toI_length]; omega), next_small j (by omega), next_small p (by omega), toI_append]
        rfl
      · exact ih (j + 1) (p + 1) _ (by omega) (by simp; omega) (by omega) (by rw [show p + 1 + d = p + (d + 1) by omega, List.append_assoc]; exact h)
theorem filter_flat (f : Nat → Bool) (g : Nat → List Nat) (l : List Nat) : (l.filter f).flatMap g = l.flatMap fun i => if f i = true then g i else [] := by
  induction l with
  | nil => rfl
  | cons x l ih =>
    rw [List.filter_cons, List.flatMap_cons, ← ih]
    split <;> simp_all
theorem filter_sum (f : Nat → Bool) (g : Nat → Nat) (l : List Nat) : l.length + ((l.filter f).map g).sum = (l.map fun i => 1 + if f i = true then g i else 0).sum := by
  induction l with
  | nil => rfl
  | cons x l ih =>
    rw [List.filter_cons, List.map_cons, List.sum_cons, List.length_cons]
    split
    · rw [List.map_cons, List.sum_cons]
      omega
    · omega
theorem flat_sum (f : Nat → List Nat) (g : Nat → Nat) (l : List Nat) : ((l.flatMap f).map g).sum = (l.map fun i => ((f i).map g).sum).sum := by
  induction l with
  | nil => rfl
  | cons x l ih => rw [List.flatMap_cons, List.map_append, List.sum_append, ih, List.map_cons, List.sum_cons]
theorem ref_down (hab : a.length = b.length) (ha : a.length ≤ 7) (hl : ∀ k : Nat, k < a.length → (rd_L1 a (k : Int)).length = (rd_L1 b (k : Int)).length ∧ (rd_L1 a (k : Int)).length ≤ 4096) (k : Nat) : ∀ (ps : List Nat) (p : Nat), k < a.length → ps.length * 4 ^ k ≤ 16384 → (∀ i ∈ ps, i < (rd_L1 a (k : Int)).length) → p ≤ 100000 * (10 - k) →
    Ev (fun m => plinthref25_Diff.l0 m (toI ps) (p : Int) (k : Int) a b) (toI (ps.flatMap (fnd a b k)), ((p + (ps.map (cnt a b k)).sum : Nat) : Int), 0) := by
  induction k with
  | zero =>
    intro ps p hk hps hi hp
    have h0 := hl 0 hk
    refine Ev.step (f := fun m => plinthref25_Diff.l1 m (toI ps) (p : Int) ((0 : Nat) : Int) (toI []) ((0 : Nat) : Int) a b) (fun m => ?_) ?_
    · rw [plinthref25_Diff.l0, if_pos (by omega)]
      rfl
    · refine ref_hold a b 0 ps hk hab ha (by omega) (fun i hm => ⟨hi i hm, by have := hi i hm; omega⟩) _ ps.length 0 p [] (by omega) (by simp; omega) (by omega) ?_
      rw [List.drop_zero, List.nil_append]
      refine Ev.congr (fun m => if_pos rfl) ?_
      have e1 : ps.flatMap (fnd a b 0) = ps.filter (ne a b 0) := by
        have := filter_flat (ne a b 0) (fun i => [i]) ps
        rw [List.flatMap_singleton'] at this
        rw [this]
        rfl
      have e2 : (ps.map (cnt a b 0)).sum = ps.length := by
        rw [show ps.map (cnt a b 0) = ps.map (fun _ => 1) from List.map_congr_left (fun _ _ => rfl), List.map_const', List.sum_replicate_nat, Nat.mul_one]
      rw [e1, e2]
      exact Ev.now _
  | succ k ih =>
    intro ps p hk hps hi hp
    have h1 := hl (k + 1) hk
    have h0 := hl k (by omega)
    have hlen : ps.length ≤ 16384 := Nat.le_trans (Nat.le_mul_of_pos_right _ (Nat.pow_pos (by decide))) hps
    refine Ev.step (f := fun m => plinthref25_Diff.l1 m (toI ps) (p : Int) ((k + 1 : Nat) : Int) (toI []) ((0 : Nat) : Int) a b) (fun m => ?_) ?_
    · rw [plinthref25_Diff.l0, if_pos (by omega)]
      rfl
    · refine ref_hold a b (k + 1) ps hk hab ha (by omega) (fun i hm => ⟨hi i hm, by have := hi i hm; omega⟩) _ ps.length 0 p [] (by omega) (by simp; omega) (by omega) ?_
      rw [List.drop_zero, List.nil_append]
      refine Ev.congr (fun m => if_neg (by omega)) ?_
      have hfl := List.length_filter_le (ne a b (k + 1)) ps
      refine ref_spread a b k (ps.filter (ne a b (k + 1))) hk ha _ (by omega) (fun i hm => by have := hi i ((List.mem_filter.1 hm).1); omega) _ (ps.filter (ne a b (k + 1))).length 0 [] (by omega) (by simp; omega) ?_
      rw [List.drop_zero, List.nil_append]
      have hc4 := flat_le (fun i => chs a k i 0 4) 4 (fun i => chs_length a k i 0 4) (ps.filter (ne a b (k + 1)))
      have hin : ∀ i ∈ (ps.filter (ne a b (k + 1))).flatMap (fun i => chs a k i 0 4), i < (rd_L1 a (k : Int)).length := by
        intro i hm
        obtain ⟨j, _, hj⟩ := List.mem_flatMap.1 hm
        unfold chs at hj
        have := (List.mem_filter.1 hj).2
        simpa using this
      have := ih ((ps.filter (ne a b (k + 1))).flatMap (fun i => chs a k i 0 4)) (p + ps.length) (by omega) (by
        refine Nat.le_trans (Nat.mul_le_mul_right _ (Nat.le_trans hc4 (Nat.mul_le_mul_right 4 hfl))) ?_
        rw [Nat.pow_succ] at hps
        rw [Nat.mul_assoc, Nat.mul_comm 4]
        exact hps) hin (by omega)
      have e1 : ((ps.filter (ne a b (k + 1))).flatMap (fun i => chs a k i 0 4)).flatMap (fnd a b k) = ps.flatMap (fnd a b (k + 1)) := by
        rw [List.flatMap_assoc, filter_flat]
        rfl
      have e2 : p + ps.length + (((ps.filter (ne a b (k + 1))).flatMap (fun i => chs a k i 0 4)).map (cnt a b k)).sum = p + (ps.map (cnt a b (k + 1))).sum := by
        rw [flat_sum, Nat.add_assoc, filter_sum]
        rfl
      rw [e1, e2] at this
      exact this
end
def diffOf (a b : List (List Int)) : List Int × Int × Int :=
  if good a ∧ good b ∧ (base a).length = (base b).length then (toI (fnd a b (a.length - 1) 0), ((cnt a b (a.length - 1) 0 : Nat) : Int), 0) else ([], 0, 250)
theorem lv_same (n : Nat) : ∀ l m : List Int, l.length = m.length → (lv n l).length = (lv n m).length ∧ ∀ k : Nat, (rd_L1 (lv n l) (k : Int)).length = (rd_L1 (lv n m) (k : Int)).length := by
  induction n with
  | zero => intro l m _; exact ⟨rfl, fun k => rfl⟩
  | succ n ih =>
    intro l m h
    have hu : (up l).length = (up m).length := by rw [up_length, up_length, h]
    have := ih (up l) (up m) hu
    rw [lv, lv]
    by_cases h1 : 1 < l.length
    · rw [if_pos h1, if_pos (by omega)]
      refine ⟨by rw [List.length_cons, List.length_cons, this.1], fun k => ?_⟩
      cases k with
      | zero => exact h
      | succ k => exact this.2 k
    · rw [if_neg h1, if_neg (by omega)]
      refine ⟨rfl, fun k => ?_⟩
      cases k with
      | zero => exact h
      | succ k => rfl
theorem good_same {a b : List (List Int)} (ha : good a) (hb : good b) (h : (base a).length = (base b).length) : a.length = b.length ∧ ∀ k : Nat, k < a.length → (rd_L1 a (k : Int)).length = (rd_L1 b (k : Int)).length ∧ (rd_L1 a (k : Int)).length ≤ 4096 := by
  have hs := lv_same 7 (base a) (base b) h
  rw [show lv 7 (base a) = a from ha.2.symm, show lv 7 (base b) = b from hb.2.symm] at hs
  refine ⟨hs.1, fun k hk => ⟨hs.2 k, ?_⟩⟩
  have : ∀ (n : Nat) (l : List Int) (k : Nat), l.length ≤ 4096 → (rd_L1 (lv n l) (k : Int)).length ≤ 4096 := by
    intro n
    induction n with
    | zero => intro l k _; simp [lv, rd_L1]
    | succ n ih =>
      intro l k hl
      rw [lv]
      cases k with
      | zero => exact hl
      | succ k =>
        split
        · exact ih (up l) k (by rw [up_length]; omega)
        · simp [rd_L1]
  have h2 := this 7 (base a) k ha.1.2
  rwa [show lv 7 (base a) = a from ha.2.symm] at h2
theorem bnd_small {k : Nat} (h : k ≤ 6) : bnd k ≤ 100000 := by
  have : ∀ k : Fin 7, bnd k ≤ 100000 := by decide
  exact this ⟨k, by omega⟩
theorem top_place {t : List (List Int)} (h : good t) : 0 < (rd_L1 t ((t.length - 1 : Nat) : Int)).length := (good_top h).1
theorem Diff_ (a b : List (List Int)) (ha : thin a) (hda : ∀ r ∈ a, isDig r) (hb : thin b) (hdb : ∀ r ∈ b, isDig r) : Ev (fun k => tree_Diff.f k a b) (diffOf a b) := by
  unfold tree_Diff.f diffOf
  refine Ev.bind (Check_ a ha hda) ?_
  unfold checkOf
  by_cases h1 : good a
  · simp only [if_pos h1, if_true]
    refine Ev.bind (Check_ b hb hdb) ?_
    unfold checkOf
    by_cases h2 : good b
    · have hn1 := good_length h1
      have hn2 := good_length h2
      simp only [if_pos h2, if_true, if_pos (show 0 < (a.length : Int) by omega), if_pos (show 0 < (b.length : Int) by omega)]
      by_cases h3 : (base a).length = (base b).length
      · have hs := good_same h1 h2 h3
        rw [if_pos ⟨h1, h2, h3⟩]
        simp only [if_pos (show ((rd_L1 a 0).length : Int) = ((rd_L1 b 0).length : Int) from congrArg Nat.cast h3)]
        have := dn_ a b hs.1 hs.2 (a.length - 1) 0 0 [] (by omega) (top_place h1) (by have := bnd_small (show a.length - 1 ≤ 6 by omega); omega) (by have := bnd_small (show a.length - 1 ≤ 6 by omega); simp; omega)
        rw [show ((a.length - 1 : Nat) : Int) = (a.length : Int) - 1 by omega, List.nil_append, Nat.zero_add] at this
        exact Ev.bind (f := fun _ q => some (q.2, q.1, (0 : Int))) this (Ev.now _)
      · rw [if_neg (fun h : good a ∧ good b ∧ (base a).length = (base b).length => h3 h.2.2)]
        simp only [if_neg (show ¬ ((rd_L1 a 0).length : Int) = ((rd_L1 b 0).length : Int) from fun h => h3 (by have : ((base a).length : Int) = ((base b).length : Int) := h; omega))]
        exact Ev.now _
    · rw [if_neg (fun h : good a ∧ good b ∧ (base a).length = (base b).length => h2 h.2.1)]
      simp only [if_neg h2]
      exact Ev.now _
  · rw [if_neg (fun h : good a ∧ good b ∧ (base a).length = (base b).length => h1 h.1)]
    simp only [if_neg h1]
    exact Ev.now _
theorem ref_Diff (a b : List (List Int)) (ha : thin a) (hb : thin b) : Ev (fun k => plinthref25_Diff.f k a b) (diffOf a b) := by
  unfold plinthref25_Diff.f diffOf
  have hj : Ev (fun k => plinthref25_Diff.j0 k true a b) ([], 0, 250) := Ev.step (f := fun _ => some ([], 0, 250)) (fun k => by rw [plinthref25_Diff.j0, if_pos rfl]) (Ev.now _)
  refine Ev.bind (ref_Check a ha) ?_
  unfold checkOf
  by_cases h1 : good a
  · simp only [if_pos h1, if_true]
    refine Ev.bind (ref_Check b hb) ?_
    unfold checkOf
    by_cases h2 : good b
    · have hn1 := good_length h1
      have hn2 := good_length h2
      simp only [if_pos h2, if_true, if_pos (show 0 < (a.length : Int) by omega), if_pos (show 0 < (b.length : Int) by omega)]
      by_cases h3 : (base a).length = (base b).length
      · have hs := good_same h1 h2 h3
        rw [if_pos ⟨h1, h2, h3⟩]
        have e : (((rd_L1 a 0).length : Int) != ((rd_L1 b 0).length : Int)) = false := bne_eq_false_iff_eq.mpr (congrArg Nat.cast h3)
        rw [e]
        have h4 : 4 ^ (a.length - 1) ≤ 16384 := by
          have : ∀ k : Fin 7, 4 ^ (k : Nat) ≤ 16384 := by decide
          exact this ⟨a.length - 1, by omega⟩
        have := ref_down a b hs.1 hn1.2 hs.2 (a.length - 1) [0] 0 (by omega) (by simpa using h4) (by intro i hi; obtain rfl := List.mem_singleton.1 hi; exact top_place h1) (by omega)
        refine Ev.step (f := fun k => plinthref25_Diff.l0 k (toI [0]) ((0 : Nat) : Int) ((a.length - 1 : Nat) : Int) a b) (fun k => ?_) ?_
        · rw [plinthref25_Diff.j0, if_neg (by decide), last_in a.length hn1.1 (by omega)]
          rfl
        · simpa using this
      · rw [if_neg (fun h : good a ∧ good b ∧ (base a).length = (base b).length => h3 h.2.2)]
        have e : (((rd_L1 a 0).length : Int) != ((rd_L1 b 0).length : Int)) = true := bne_iff_ne.mpr (fun h => h3 (by have : ((base a).length : Int) = ((base b).length : Int) := h; omega))
        rw [e]
        exact hj
    · rw [if_neg (fun h : good a ∧ good b ∧ (base a).length = (base b).length => h2 h.2.1)]
      simp only [if_neg h2]
      exact hj
  · rw [if_neg (fun h : good a ∧ good b ∧ (base a).length = (base b).length => h1 h.1)]
    simp only [if_neg h1]
    exact hj
theorem places_from (x y : List Int) (h : x.length = y.length) (hl : x.length ≤ 9223372036854775807) (d : Nat) : ∀ i : Nat, i + d = x.length →
    Ev (fun k => plinthref25_SamePlaces.l0 k x y (i : Int)) (decide (x.drop i = y.drop i)) := by
  induction d with
  | zero =>
    intro i hi
    refine Ev.step (f := fun _ => some true) (fun k => ?_) ?_
    · rw [plinthref25_SamePlaces.l0, if_neg (by omega)]
    · rw [List.drop_of_length_le (by omega), List.drop_of_length_le (by omega)]
      exact Ev.now _
  | succ d ih =>
    intro i hi
    have e1 := drop_rd x i (by omega)
    have e2 := drop_rd y i (by omega)
    by_cases he : rd x (i : Int) = rd y (i : Int)
    · refine Ev.step (f := fun k => plinthref25_SamePlaces.l0 k x y ((i + 1 : Nat) : Int)) (fun k => ?_) ?_
      · rw [plinthref25_SamePlaces.l0, if_pos (by omega), if_pos (by omega), if_pos (by omega), if_pos he, wrap_next i x.length (by omega) hl]
      · rw [e1, e2, he]
        simp only [List.cons.injEq, true_and]
        exact ih (i + 1) (by omega)
    · refine Ev.step (f := fun _ => some false) (fun k => ?_) ?_
      · rw [plinthref25_SamePlaces.l0, if_pos (by omega), if_pos (by omega), if_pos (by omega), if_neg he]
      · rw [e1, e2, decide_eq_false (by simp [he])]
        exact Ev.now _
theorem SamePlaces_ (x y : List Int) (hl : x.length ≤ 9223372036854775807) : Ev (fun k => plinthref25_SamePlaces.f k x y) (decide (x = y)) := by
  by_cases h : x.length = y.length
  · have := places_from x y h hl x.length 0 (by omega)
    refine Ev.congr (fun k => ?_) this
    rw [plinthref25_SamePlaces.f, if_pos (by omega)]
    rfl
  · refine Ev.congr (f := fun _ => some false) (fun k => ?_) ?_
    · rw [plinthref25_SamePlaces.f, if_neg (by omega)]
    · rw [decide_eq_false (by rintro rfl; exact h rfl)]
      exact Ev.now _
theorem diff_length (a b : List (List Int)) : (diffOf a b).1.length ≤ 100000000 := by
  unfold diffOf
  split
  · rename_i h
    have h1 := fnd_le a b (a.length - 1) 0
    have h2 := bnd_small (show a.length - 1 ≤ 6 by have := good_length h.1; omega)
    rw [toI_length]
    omega
  · simp
end Go.Proofs.Ytbmmddngadnofaa.Tree
