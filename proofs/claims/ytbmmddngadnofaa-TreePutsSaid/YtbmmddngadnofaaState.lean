/- Which states may be: the machine's own answer and the reference's are the same. -/
import Derived.Test.YtbmmddngadnofaaFx47
import Derived.Test.YtbmmddngadnofaaFx43
import Derived.Test.YtbmmddngadnofaaFx53
import Derived.Test.YtbmmddngadnofaaFx50
import Derived.Test.YtbmmddngadnofaaFx52
import Derived.Test.YtbmmddngadnofaaFx51
import Derived.Test.YtbmmddngadnofaaFx49
import Derived.Test.YtbmmddngadnofaaFx54
namespace Go.Proofs.Ytbmmddngadnofaa.State
open Go.RowKit Go.Proofs.Ytbmmddngadnofaa.F Go.Proofs.YtbmmddngadnofaaW.PrintWords Go.Proofs.YtbmmddngadnofaaW.PrintLast Go.Proofs.YtbmmddngadnofaaW.PrintMore
set_option linter.unusedSimpArgs false
set_option linter.unusedVariables false
abbrev Pg := S39
abbrev Rw := S121
theorem w1 (i : Nat) (h : i < 4611686018427387904) : wrap64 ((i : Int) + 1) = ((i + 1 : Nat) : Int) := by unfold wrap64; omega
theorem w2 (i : Nat) (h : i < 4611686018427387904) : wrap64 (((i + 1 : Nat) : Int) - 1) = (i : Int) := by unfold wrap64; omega
theorem rd_nat (l : List Int) (i : Nat) (h : i < l.length) : rd l (i : Int) = l[i] := by simp [rd, h]
theorem rdP_nat (l : List Pg) (i : Nat) (h : i < l.length) : rd_T39 l (i : Int) = l[i] := by simp [rd_T39, h]
theorem rdR_nat (l : List Rw) (i : Nat) (h : i < l.length) : rd_T121 l (i : Int) = l[i] := by simp [rd_T121, h]
/-! ### groups -/
def asc : Int → List Int → Bool
  | _, [] => true
  | last, n :: l => decide (last < n) && decide (n < 64) && asc n l
def grp (e : Int) (l : List Int) : Bool := decide (0 ≤ e ∧ e ≤ 4611686018427387904 ∧ 1 ≤ l.length ∧ l.length ≤ 9) && asc (-1) l
theorem grp_from (l : List Int) (hl : l.length < 4611686018427387904) (d : Nat) : ∀ (i : Nat) (b : Bool) (last : Int), i + d = l.length → Ev (fun k => machine_Group.l0 k b last l (l.length : Int) (i : Int)) (if (b && asc last (l.drop i)) = true then 0 else 71) := by
  induction d with
  | zero =>
    intro i b last h
    refine Ev.step (f := fun _ => if b = true then some 0 else some 71) (fun k => ?_) ?_
    · rw [machine_Group.l0, if_neg (by omega)]
    · rw [List.drop_of_length_le (by omega), asc, Bool.and_true]
      cases b
      · exact Ev.now _
      · exact Ev.now _
  | succ d ih =>
    intro i b last h
    have hi : i < l.length := by omega
    have e : l.drop i = l[i] :: l.drop (i + 1) := List.drop_eq_getElem_cons hi
    rw [e, asc]
    have er := rd_nat l i hi
    cases b
    · refine Ev.step (f := fun k => machine_Group.l0 k false (rd l (i : Int)) l (l.length : Int) ((i + 1 : Nat) : Int)) (fun k => ?_) ?_
      · rw [machine_Group.l0, if_pos (by omega), if_pos (by omega), if_pos (by omega), if_neg (by decide), w1 i (by omega)]
      · have := ih (i + 1) false (rd l (i : Int)) (by omega)
        simpa using this
    · by_cases c1 : last < l[i]
      · refine Ev.step (f := fun k => machine_Group.l0 k (decide (l[i] < 64)) (l[i]) l (l.length : Int) ((i + 1 : Nat) : Int)) (fun k => ?_) ?_
        · rw [machine_Group.l0, if_pos (by omega), if_pos (by omega), if_pos (by omega), if_pos rfl, er, if_pos c1, w1 i (by omega)]
        · have := ih (i + 1) (decide (l[i] < 64)) (l[i]) (by omega)
          rw [decide_eq_true c1]
          simpa using this
      · refine Ev.step (f := fun k => machine_Group.l0 k false (l[i]) l (l.length : Int) ((i + 1 : Nat) : Int)) (fun k => ?_) ?_
        · rw [machine_Group.l0, if_pos (by omega), if_pos (by omega), if_pos (by omega), if_pos rfl, er, if_neg c1, w1 i (by omega)]
        · have := ih (i + 1) false (l[i]) (by omega)
          rw [decide_eq_false c1]
          simpa using this
theorem Group_ (e : Int) (l : List Int) (hl : l.length < 4611686018427387904) : Ev (fun k => machine_Group.f k e l) (if grp e l = true then 0 else 71) := by
  have hf := fun b => grp_from l hl l.length 0 b (-1) (by omega)
  simp only [List.drop_zero] at hf
  have hj := fun b => Ev.step (g := fun k => machine_Group.j0 k b e l) (fun k => by rw [machine_Group.j0]; rfl) (hf b)
  unfold machine_Group.f grp
  by_cases c1 : 0 ≤ e
  · by_cases c2 : e ≤ 4611686018427387904
    · by_cases c3 : (l.length : Int) > 0
      · simp only [ge_iff_le, if_pos c1, if_pos c2, if_pos c3]
        have hc : decide (0 ≤ e ∧ e ≤ 4611686018427387904 ∧ 1 ≤ l.length ∧ l.length ≤ 9) = decide ((l.length : Int) ≤ 9) := by
          rw [decide_eq_decide]; omega
        rw [hc]
        exact hj _
      · simp only [ge_iff_le, if_pos c1, if_pos c2, if_neg c3]
        rw [decide_eq_false (by omega)]
        exact hj false
    · simp only [ge_iff_le, if_pos c1, if_neg c2]
      rw [decide_eq_false (by omega)]
      exact hj false
  · simp only [ge_iff_le, if_neg c1]
    rw [decide_eq_false (by omega)]
    exact hj false
theorem ref_grp_from (e : Int) (l : List Int) (hl : l.length < 4611686018427387904) (d : Nat) : ∀ (i : Nat) (last : Int), i + d = l.length → (i = 0 → last = -1) → (∀ j, i = j + 1 → ∀ hj : j < l.length, last = l[j] ∧ 0 ≤ last) →
    Ev (fun k => plinthref07_Group.l0 k (i : Int) e l) (if asc last (l.drop i) = true then 0 else 71) := by
  induction d with
  | zero =>
    intro i last h _ _
    refine Ev.step (f := fun _ => some 0) (fun k => ?_) ?_
    · rw [plinthref07_Group.l0, if_neg (by omega)]
    · rw [List.drop_of_length_le (by omega), asc]
      exact Ev.now _
  | succ d ih =>
    intro i last h h0 hp
    have hi : i < l.length := by omega
    have e1 : l.drop i = l[i] :: l.drop (i + 1) := List.drop_eq_getElem_cons hi
    have er := rd_nat l i hi
    have hn := ih (i + 1) (l[i]) (by omega) (by omega)
    rw [e1, asc]
    by_cases c1 : l[i] < 0
    · refine Ev.step (f := fun _ => some 71) (fun k => ?_) ?_
      · rw [plinthref07_Group.l0, if_pos (by omega), if_pos (by omega), er, if_pos c1]
      · rw [decide_eq_false (by
          cases i with
          | zero => rw [h0 rfl]; omega
          | succ j => have := hp j rfl (by omega); omega)]
        exact Ev.now _
    · have hn' := hn (fun j hj hj' => by cases (show i = j by omega); exact ⟨rfl, by omega⟩)
      by_cases c2 : l[i] ≥ 64
      · refine Ev.step (f := fun _ => some 71) (fun k => ?_) ?_
        · rw [plinthref07_Group.l0, if_pos (by omega), if_pos (by omega), er, if_neg c1, if_pos c2]
        · rw [decide_eq_false (show ¬ l[i] < 64 by omega), Bool.and_false, Bool.false_and]
          exact Ev.now _
      · rw [decide_eq_true (show l[i] < 64 by omega), Bool.and_true]
        cases i with
        | zero =>
          refine Ev.step (f := fun k => plinthref07_Group.l0 k ((0 + 1 : Nat) : Int) e l) (fun k => ?_) ?_
          · rw [plinthref07_Group.l0, if_pos (by omega), if_pos (by omega), er, if_neg c1, if_neg c2, if_neg (by decide), w1 0 (by omega)]
          · rw [h0 rfl, decide_eq_true (show (-1 : Int) < l[0] by omega), Bool.true_and]
            exact hn'
        | succ j =>
          obtain ⟨hl1, hl2⟩ := hp j rfl (by omega)
          have er2 := rd_nat l j (by omega)
          by_cases c3 : l[j + 1] ≤ l[j]
          · refine Ev.step (f := fun _ => some 71) (fun k => ?_) ?_
            · rw [plinthref07_Group.l0, if_pos (by omega), if_pos (by omega), er, if_neg c1, if_neg c2, if_pos (by omega), w2 j (by omega), if_pos (by omega), if_pos (by omega), er2, if_pos c3]
            · rw [hl1, decide_eq_false (show ¬ l[j] < l[j + 1] by omega), Bool.false_and]
              exact Ev.now _
          · refine Ev.step (f := fun k => plinthref07_Group.l0 k ((j + 1 + 1 : Nat) : Int) e l) (fun k => ?_) ?_
            · rw [plinthref07_Group.l0, if_pos (by omega), if_pos (by omega), er, if_neg c1, if_neg c2, if_pos (by omega), w2 j (by omega), if_pos (by omega), if_pos (by omega), er2, if_neg c3, w1 (j + 1) (by omega)]
            · rw [hl1, decide_eq_true (show l[j] < l[j + 1] by omega), Bool.true_and]
              exact hn'
theorem ref_Group (e : Int) (l : List Int) (hl : l.length < 4611686018427387904) : Ev (fun k => plinthref07_Group.f k e l) (if grp e l = true then 0 else 71) := by
  have hf := ref_grp_from e l hl l.length 0 (-1) (by omega) (fun _ => rfl) (fun j hj => by omega)
  rw [List.drop_zero] at hf
  have ht : Ev (fun k => plinthref07_Group.j0 k true e l) 71 := Ev.step (f := fun _ => some 71) (fun k => by rw [plinthref07_Group.j0, if_pos rfl]) (Ev.now _)
  unfold plinthref07_Group.f grp
  by_cases c1 : e < 0
  · simp only [if_pos c1]
    rw [decide_eq_false (by omega)]
    exact ht
  · by_cases c2 : e > 4611686018427387904
    · simp only [if_neg c1, if_pos c2]
      rw [decide_eq_false (by omega)]
      exact ht
    · by_cases c3 : (l.length : Int) < 1
      · simp only [if_neg c1, if_neg c2, if_pos c3]
        rw [decide_eq_false (by omega)]
        exact ht
      · simp only [if_neg c1, if_neg c2, if_neg c3]
        by_cases c4 : (l.length : Int) > 9
        · rw [decide_eq_true c4, decide_eq_false (by omega)]
          exact ht
        · rw [decide_eq_false c4, decide_eq_true (by omega), Bool.true_and]
          exact Ev.step (fun k => by rw [plinthref07_Group.j0, if_neg (by decide)]; rfl) hf
/-! ### pages -/
theorem bad_eq (bl sz : Nat) (last : Int) (x : Pg) : (!volume_Load.bad bl sz last x) = decide (last < x.f0 ∧ x.f0 < bl ∧ 1 ≤ x.f1 ∧ x.f1 ≤ 4611686018427387904 ∧ (x.f2.length : Int) = sz) := by
  unfold volume_Load.bad
  repeat' split
  all_goals first
    | (rw [decide_eq_false (by omega)]; rfl)
    | skip
  by_cases c : (x.f2.length : Int) = sz
  · rw [decide_eq_false (by omega), decide_eq_true (by omega)]; rfl
  · rw [decide_eq_true (by omega), decide_eq_false (by omega)]; rfl
theorem laid_cons (bl sz : Nat) (last : Int) (x : Pg) (l : List Pg) : volume_Load.laidAll bl sz last (x :: l) = (decide (last < x.f0 ∧ x.f0 < bl ∧ 1 ≤ x.f1 ∧ x.f1 ≤ 4611686018427387904 ∧ (x.f2.length : Int) = sz) && volume_Load.laidAll bl sz x.f0 l) := by
  rw [volume_Load.laidAll, bad_eq]
theorem row_eq (bl sz : Nat) (p last : Int) (i : Nat) (x : Pg) (h0 : i = 0 → last = -1) (h1 : 0 < i → p = last ∧ 0 ≤ last) : plinthref05_Laid.row bl sz p i x = decide (last < x.f0 ∧ x.f0 < bl ∧ 1 ≤ x.f1 ∧ x.f1 ≤ 4611686018427387904 ∧ (x.f2.length : Int) = sz) := by
  have hc : last = -1 ∧ i = 0 ∨ p = last ∧ 0 ≤ last ∧ 0 < i := by
    rcases Nat.eq_zero_or_pos i with h | h
    · exact .inl ⟨h0 h, h⟩
    · exact .inr ⟨(h1 h).1, (h1 h).2, h⟩
  unfold plinthref05_Laid.row
  repeat' split
  all_goals first
    | (rw [decide_eq_false (by omega)]; done)
    | skip
  by_cases c : (x.f2.length : Int) = sz
  · rw [decide_eq_true c, decide_eq_true (by omega)]
  · rw [decide_eq_false c, decide_eq_false (by omega)]
theorem laid_all (bl sz : Nat) : ∀ (l : List Pg) (p last : Int) (i : Nat), (i = 0 → last = -1) → (0 < i → p = last ∧ 0 ≤ last) → plinthref05_Laid.all bl sz p i l = volume_Load.laidAll bl sz last l
  | [], _, _, _, _, _ => rfl
  | x :: l, p, last, i, h0, h1 => by
    rw [plinthref05_Laid.all, laid_cons, row_eq bl sz p last i x h0 h1]
    by_cases c : last < x.f0 ∧ x.f0 < bl ∧ 1 ≤ x.f1 ∧ x.f1 ≤ 4611686018427387904 ∧ (x.f2.length : Int) = sz
    · have hx : 0 ≤ x.f0 := by
        rcases Nat.eq_zero_or_pos i with h | h
        · have := h0 h; omega
        · have := h1 h; omega
      rw [laid_all bl sz l x.f0 x.f0 (i + 1) (fun h => by omega) (fun _ => ⟨rfl, hx⟩)]
    · rw [decide_eq_false c, Bool.false_and, Bool.false_and]
theorem ref_Laid (bl sz : Nat) (l : List Pg) (hl : l.length < 2 ^ 48) : Ev (fun k => plinthref05_Laid.f k (bl : Int) (sz : Int) l) (volume_Load.laidAll bl sz (-1) l) := by
  refine Ev.congr (f := fun _ => some (volume_Load.laidAll bl sz (-1) l)) (fun k => ?_) (Ev.now _)
  rw [plinthref05_Laid.f, if_pos hl, laid_all bl sz l 0 (-1) 0 (fun _ => rfl) (fun h => absurd h (by decide))]
/-! ### rows -/
theorem number_ (n : Int) : plinthref06_number.f n = some (table_Load.num n) := by
  unfold plinthref06_number.f table_Load.num
  split <;> rfl
theorem Result_ (c : Int) (l : List Int) : Ev (fun k => plinthref04_Result.f k c l) (if table_Load.may c l = true then 0 else 42) := by
  have ht : Ev (fun k => plinthref04_Result.j0 k true c l) 42 := Ev.step (f := fun _ => some 42) (fun k => by rw [plinthref04_Result.j0, if_pos rfl]) (Ev.now _)
  unfold plinthref04_Result.f table_Load.may
  by_cases c1 : c < 1
  · simp only [if_pos c1]
    rw [if_neg (show ¬ (c = 1 ∨ c = 4) by omega), if_neg (show ¬ (c = 2 ∨ c = 3) by omega)]
    exact ht
  by_cases c2 : c > 4
  · simp only [if_neg c1, if_pos c2]
    rw [if_neg (show ¬ (c = 1 ∨ c = 4) by omega), if_neg (show ¬ (c = 2 ∨ c = 3) by omega)]
    exact ht
  simp only [if_neg c1, if_neg c2]
  by_cases c3 : (l.length : Int) > 262144
  · rw [decide_eq_true c3]
    have : (if c = 1 ∨ c = 4 then decide (l.length ≤ 262144) else if c = 2 ∨ c = 3 then decide (l.length = 0) else false) = false := by
      split
      · exact decide_eq_false (by omega)
      · split
        · exact decide_eq_false (by omega)
        · rfl
    rw [this]
    exact ht
  rw [decide_eq_false c3]
  by_cases c4 : (l.length : Int) > 0
  · by_cases c5 : c = 1 ∨ c = 4
    · rw [if_pos c5, decide_eq_true (by omega)]
      refine Ev.step (f := fun _ => some 0) (fun k => ?_) (Ev.now _)
      rw [plinthref04_Result.j0, if_neg (by decide), if_pos c4]
      rcases c5 with rfl | rfl
      · rfl
      · rfl
    · rw [if_neg c5, if_pos (show c = 2 ∨ c = 3 by omega), decide_eq_false (by omega)]
      refine Ev.step (f := fun _ => some 42) (fun k => ?_) (Ev.now _)
      rw [plinthref04_Result.j0, if_neg (by decide), if_pos c4, if_neg (by omega), if_neg (by omega)]
  · have : (if c = 1 ∨ c = 4 then decide (l.length ≤ 262144) else if c = 2 ∨ c = 3 then decide (l.length = 0) else false) = true := by
      split
      · exact decide_eq_true (by omega)
      · rw [if_pos (by omega)]
        exact decide_eq_true (by omega)
    rw [this]
    refine Ev.step (f := fun _ => some 0) (fun k => ?_) (Ev.now _)
    rw [plinthref04_Result.j0, if_neg (by decide), if_neg c4]
def rows : Int → List Rw → Bool
  | _, [] => true
  | before, x :: l => decide (before < x.f0) && (table_Load.num x.f0 && table_Load.num x.f1 && table_Load.may x.f2.f0 x.f2.f1) && rows x.f0 l
theorem all_rows : ∀ (l : List Rw) (before : Int) (n : Nat), n ≤ 64 → table_Load.all before n l = (decide (n + l.length ≤ 64) && rows before l)
  | [], before, n, h => by rw [table_Load.all, rows, decide_eq_true (by simpa using h)]; rfl
  | x :: l, before, n, h => by
    rw [table_Load.all, rows, table_Load.good]
    by_cases hn : n = 64
    · rw [decide_eq_false (show ¬ n ≠ 64 by omega), decide_eq_false (show ¬ n + (x :: l).length ≤ 64 by rw [List.length_cons]; omega)]
      simp
    · rw [decide_eq_true hn, all_rows l x.f0 (n + 1) (by omega), Bool.and_true]
      have e : decide (n + 1 + l.length ≤ 64) = decide (n + (x :: l).length ≤ 64) := by rw [decide_eq_decide, List.length_cons]; omega
      rw [e]
      generalize decide (n + (x :: l).length ≤ 64) = a
      generalize decide (before < x.f0) = b
      generalize (table_Load.num x.f0 && table_Load.num x.f1 && table_Load.may x.f2.f0 x.f2.f1) = c
      generalize rows x.f0 l = d
      cases a <;> cases b <;> cases c <;> cases d <;> rfl
theorem num_pos {n : Int} (h : table_Load.num n = true) : 1 ≤ n := by
  unfold table_Load.num at h
  split at h
  · assumption
  · cases h
theorem right_all : ∀ (l : List Rw) (p last : Int) (i : Nat), (i = 0 → last = 0) → (0 < i → p = last) → Ev (fun k => plinthref06_Right.all k p i l) (rows last l)
  | [], _, _, _, _, _ => Ev.now _
  | x :: l, p, last, i, h0, h1 => by
    refine Ev.congr (fun k => by rw [plinthref06_Right.all, number_, number_]) ?_
    rw [rows]
    simp only [Option.bind_some]
    cases q1 : table_Load.num x.f0
    · simp only [Bool.false_and, Bool.and_false, Bool.false_eq_true, if_false]
      exact Ev.now _
    cases q2 : table_Load.num x.f1
    · simp only [Bool.false_and, Bool.and_false, Bool.false_eq_true, if_false, if_true]
      exact Ev.now _
    simp only [if_true]
    have hpos := num_pos q1
    have hc : (0 < i ∧ x.f0 ≤ p) ↔ ¬ last < x.f0 := by
      rcases Nat.eq_zero_or_pos i with h | h
      · have := h0 h; omega
      · have := h1 h; omega
    by_cases c : 0 < i ∧ x.f0 ≤ p
    · simp only [if_pos c]
      rw [decide_eq_false (hc.1 c), Bool.false_and, Bool.false_and]
      exact Ev.now _
    · simp only [if_neg c]
      rw [decide_eq_true (show last < x.f0 from Decidable.byContradiction fun h => c (hc.2 h))]
      refine Ev.bind (Result_ _ _) ?_
      cases q3 : table_Load.may x.f2.f0 x.f2.f1
      · exact Ev.now _
      · exact right_all l x.f0 x.f0 (i + 1) (fun h => by omega) (fun _ => rfl)
theorem Right_ (l : List Rw) : Ev (fun k => plinthref06_Right.f k l) (table_Load.all 0 0 l) := by
  rw [all_rows l 0 0 (by omega)]
  unfold plinthref06_Right.f
  by_cases c : 64 < l.length
  · simp only [if_pos c]
    rw [decide_eq_false (by omega)]
    exact Ev.now _
  · simp only [if_neg c]
    rw [decide_eq_true (by omega), Bool.true_and]
    exact right_all l 0 0 0 (fun _ => rfl) (fun h => absurd h (by decide))
/-! ### states -/
theorem Shape_ (a1 a2 : Int) : plinthref04_Shape.f a1 a2 = some (if 1 ≤ a1 ∧ a1 ≤ 4096 ∧ 1 ≤ a2 ∧ a2 ≤ 4096 then 0 else 40) := by
  unfold plinthref04_Shape.f
  repeat' split
  all_goals first | rfl | (exfalso; omega)
theorem late_from (a0 a1 a2 : Int) (l3 : List Pg) (l4 : List Rw) (a5 : Int) (l6 : List Int) (hl : l3.length < 4611686018427387904) (d : Nat) : ∀ (i : Nat), i + d = l3.length →
    Ev (fun k => plinthref07_State.l0 k (i : Int) a0 a1 a2 l3 l4 a5 l6) (if machine_Load.late a0 (l3.drop i) = true then 72 else 0) := by
  induction d with
  | zero =>
    intro i h
    refine Ev.step (f := fun _ => some 0) (fun k => ?_) ?_
    · rw [plinthref07_State.l0, if_neg (by omega)]
    · rw [List.drop_of_length_le (by omega)]
      exact Ev.now _
  | succ d ih =>
    intro i h
    have hi : i < l3.length := by omega
    have e1 : l3.drop i = l3[i] :: l3.drop (i + 1) := List.drop_eq_getElem_cons hi
    have er := rdP_nat l3 i hi
    rw [e1, machine_Load.late, List.any_cons]
    by_cases c : l3[i].f1 > a0
    · refine Ev.step (f := fun _ => some 72) (fun k => ?_) ?_
      · rw [plinthref07_State.l0, if_pos (by omega), if_pos (by omega), er, if_pos c]
      · rw [decide_eq_true (show a0 < l3[i].f1 from c), Bool.true_or]
        exact Ev.now _
    · refine Ev.step (f := fun k => plinthref07_State.l0 k ((i + 1 : Nat) : Int) a0 a1 a2 l3 l4 a5 l6) (fun k => ?_) ?_
      · rw [plinthref07_State.l0, if_pos (by omega), if_pos (by omega), er, if_neg c, w1 i (by omega)]
      · rw [decide_eq_false (show ¬ a0 < l3[i].f1 from c), Bool.false_or]
        exact ih (i + 1) (by omega)
/-- May a state be? -/
def ok (a0 a1 a2 : Int) (l3 : List Pg) (l4 : List Rw) (a5 : Int) (l6 : List Int) : Bool := machine_Load.ok a0 a1 a2 l3 l4 (grp a5 l6)
theorem State_ (a0 a1 a2 : Int) (l3 : List Pg) (l4 : List Rw) (a5 : Int) (l6 : List Int) (h3 : l3.length < 2 ^ 48) (h6 : l6.length < 4611686018427387904) :
    Ev (fun k => plinthref07_State.f k a0 a1 a2 l3 l4 a5 l6) (if ok a0 a1 a2 l3 l4 a5 l6 = true then 0 else 72) := by
  have ht : Ev (fun k => plinthref07_State.j0 k true a0 a1 a2 l3 l4 a5 l6) 72 := Ev.step (f := fun _ => some 72) (fun k => by rw [plinthref07_State.j0, if_pos rfl]) (Ev.now _)
  unfold plinthref07_State.f ok machine_Load.ok
  by_cases c1 : a0 < 0
  · simp only [if_pos c1]
    exact ht
  by_cases c2 : 4611686018427387904 < a0
  · simp only [if_neg c1, if_pos c2, if_pos (show a0 > 4611686018427387904 from c2), Bool.false_eq_true, if_false]
    exact ht
  simp only [if_neg c1, if_neg c2, if_neg (show ¬ a0 > 4611686018427387904 from c2)]
  have hg := ref_Group a5 l6 h6
  by_cases c3 : 1 ≤ a1 ∧ a1 ≤ 4096 ∧ 1 ≤ a2 ∧ a2 ≤ 4096
  rotate_left
  · have hv : machine_Load.volOk a1 a2 l3 = false := by rw [machine_Load.volOk, decide_eq_false c3]; rfl
    simp only [Shape_, if_neg c3, Option.bind_some, hv, if_true]
    have e : (if (if grp a5 l6 = false then false else false) = true then (0 : Int) else 72) = 72 := by
      split <;> simp_all
    rw [e]
    exact ht
  obtain ⟨bl, rfl⟩ : ∃ bl : Nat, a1 = bl := ⟨a1.toNat, by omega⟩
  obtain ⟨sz, rfl⟩ : ∃ sz : Nat, a2 = sz := ⟨a2.toNat, by omega⟩
  have hv : machine_Load.volOk (bl : Int) (sz : Int) l3 = volume_Load.laidAll bl sz (-1) l3 := by
    rw [machine_Load.volOk, decide_eq_true c3, Bool.true_and, Int.toNat_natCast, Int.toNat_natCast]
  simp only [Shape_, if_pos c3, Option.bind_some, hv, if_true]
  refine Ev.bind (ref_Laid bl sz l3 h3) ?_
  cases q1 : volume_Load.laidAll bl sz (-1) l3
  · simp only [Bool.false_eq_true, if_false, if_true]
    have e : (if (if grp a5 l6 = false then false else false) = true then (0 : Int) else 72) = 72 := by
      split <;> simp_all
    rw [e]
    exact ht
  simp only [if_true]
  refine Ev.bind (Right_ l4) ?_
  cases q2 : table_Load.all 0 0 l4
  · simp only [Bool.false_eq_true, if_false, if_true]
    have e : (if (if grp a5 l6 = false then false else if true = false then false else false) = true then (0 : Int) else 72) = 72 := by
      split <;> simp_all
    rw [e]
    exact ht
  simp only [if_true]
  refine Ev.bind hg ?_
  cases q3 : grp a5 l6
  · simp only [Bool.false_eq_true, if_false, if_true]
    exact ht
  · have hf := late_from a0 bl sz l3 l4 a5 l6 (by omega) l3.length 0 (by omega)
    rw [List.drop_zero] at hf
    refine Ev.step (f := fun k => plinthref07_State.l0 k ((0 : Nat) : Int) a0 bl sz l3 l4 a5 l6) (fun k => ?_) ?_
    · rw [plinthref07_State.j0]; rfl
    · cases q4 : machine_Load.late a0 l3
      · rw [q4] at hf
        exact hf
      · rw [q4] at hf
        exact hf
end Go.Proofs.Ytbmmddngadnofaa.State
