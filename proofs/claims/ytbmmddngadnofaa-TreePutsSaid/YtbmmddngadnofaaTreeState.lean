/- The tree of a state: the program's and the reference's. -/
import Derived.Test.YtbmmddngadnofaaTreeLeaf
import Derived.Test.YtbmmddngadnofaaState
import Derived.Test.YtbmmddngadnofaaFx48
import Derived.Test.YtbmmddngadnofaaFx55
import Derived.Test.YtbmmddngadnofaaFx42
namespace Go.Proofs.Ytbmmddngadnofaa.Tree
open Go.RowKit Go.Proofs.Ytbmmddngadnofaa.F Go.Proofs.Ytbmmddngadnofaa.Bytes Go.Proofs.Ytbmmddngadnofaa.Octets Go.Proofs.Ytbmmddngadnofaa.State Go.Proofs.YtbmmddngadnofaaW.PrintWords Go.Proofs.YtbmmddngadnofaaW.PrintLast Go.Proofs.YtbmmddngadnofaaW.PrintMore
set_option linter.unusedSimpArgs false
set_option linter.unusedVariables false
def lf (p : Pg) : Int := leafD p.f0 p.f1 p.f2
def bareP (sz i : Nat) : Pg := ⟨(i : Int), 0, List.replicate sz 0⟩
def bares (sz : Nat) : Nat → Nat → List Int
  | 0, _ => []
  | n + 1, i => lf (bareP sz i) :: bares sz n (i + 1)
def lays : List Pg → List Int → List Int
  | [], l => l
  | p :: ps, l => lays ps (l.set p.f0.toNat (lf p))
def leaves (bl sz : Nat) (l3 : List Pg) : List Int := lays l3 (bares sz bl 0)
theorem bares_length (sz : Nat) : ∀ n i, (bares sz n i).length = n
  | 0, _ => rfl
  | n + 1, i => by rw [bares, List.length_cons, bares_length sz n (i + 1)]
theorem lays_length : ∀ ps l, (lays ps l).length = l.length
  | [], _ => rfl
  | p :: ps, l => by rw [lays, lays_length ps, List.length_set]
theorem bares_dig (sz : Nat) : ∀ n i, isDig (bares sz n i)
  | 0, _ => fun x hx => by cases hx
  | n + 1, i => fun x hx => by
    rcases List.mem_cons.1 hx with rfl | hx
    · exact leafD_range _ _ _
    · exact bares_dig sz n (i + 1) x hx
theorem lays_dig : ∀ ps l, isDig l → isDig (lays ps l)
  | [], _, h => h
  | p :: ps, l, h => lays_dig ps _ (fun x hx => by
    rcases List.mem_or_eq_of_mem_set hx with hx | rfl
    · exact h x hx
    · exact leafD_range _ _ _)
theorem leaves_dig (bl sz : Nat) (l3 : List Pg) : isDig (leaves bl sz l3) := lays_dig _ _ (bares_dig _ _ _)
theorem leaves_length (bl sz : Nat) (l3 : List Pg) : (leaves bl sz l3).length = bl := by rw [leaves, lays_length, bares_length]
theorem bare_ (sz : Nat) (hsz : sz ≤ 140737488351232) : ∀ n i, Ev (fun k => tree_Of.bare k sz n i) (bares sz n i)
  | 0, i => Ev.now _
  | n + 1, i => by
    refine Ev.congr (fun k => by rw [tree_Of.bare]) ?_
    exact Ev.bind (Leaf_ (i : Int) 0 _ (by rw [List.length_replicate]; exact hsz)) (Ev.bind (bare_ sz hsz n (i + 1)) (Ev.now _))
theorem lay_ : ∀ (ps : List Pg) (l : List Int), (∀ p ∈ ps, p.f2.length ≤ 140737488351232) → Ev (fun k => tree_Of.lay k ps l) (lays ps l)
  | [], l, _ => Ev.now _
  | p :: ps, l, h => by
    refine Ev.congr (fun k => by rw [tree_Of.lay]) ?_
    exact Ev.bind (Leaf_ p.f0 p.f1 p.f2 (h p (by simp))) (lay_ ps _ (fun q hq => h q (by simp [hq])))
theorem make_same (l : List Int) (hd : isDig l) : Ev (fun k => plinthref25_Same.f k (makeOf l).1 (makeOf l).1) true := by
  have ht : thin (makeOf l).1 := by
    unfold makeOf
    split
    · rename_i h
      exact slim_thin (tree_slim hd h.2)
    · exact ⟨by simp, fun r hr => by cases hr⟩
  have := ref_Same _ (makeOf l).1 ht
  rwa [decide_eq_true rfl] at this
theorem small_some (a0 a1 a2 : Int) (l3 : List Pg) (l4 : List Rw) (a5 : Int) (l6 : List Int) : ∃ b, plinthlaw25_small.f a0 a1 a2 l3 l4 a5 l6 = some b := by
  unfold plinthlaw25_small.f
  repeat' split
  all_goals exact ⟨_, rfl⟩
/-- The tree of a state, or the error. -/
def ofOf (a0 a1 a2 : Int) (l3 : List Pg) (l4 : List Rw) (a5 : Int) (l6 : List Int) : List (List Int) × Int :=
  if State.ok a0 a1 a2 l3 l4 a5 l6 = true then makeOf (leaves a1.toNat a2.toNat l3) else ([], 72)
theorem grp_dec (b : Bool) : ((if b = true then (0 : Int) else 71) == 0) = b := by cases b <;> rfl
theorem ok_parts {a0 a1 a2 : Int} {l3 : List Pg} {l4 : List Rw} {a5 : Int} {l6 : List Int} (h : State.ok a0 a1 a2 l3 l4 a5 l6 = true) :
    (1 ≤ a1 ∧ a1 ≤ 4096 ∧ 1 ≤ a2 ∧ a2 ≤ 4096) ∧ volume_Load.laidAll a1.toNat a2.toNat (-1) l3 = true := tree_Of.ok_true h
theorem Of_ (a0 a1 a2 : Int) (l3 : List Pg) (l4 : List Rw) (a5 : Int) (l6 : List Int) (h3 : l3.length < 2 ^ 48) (h4 : l4.length < 2 ^ 48) (h6 : l6.length < 17592186044416) (hd : ∀ p ∈ l3, p.f2.length ≤ 140737488351232) :
    Ev (fun k => tree_Of.f k a0 a1 a2 l3 l4 a5 l6) (ofOf a0 a1 a2 l3 l4 a5 l6) := by
  unfold tree_Of.f ofOf
  simp only [if_pos (show l3.length < 2 ^ 48 ∧ l4.length < 2 ^ 48 ∧ l6.length < 17592186044416 from ⟨h3, h4, h6⟩)]
  refine Ev.bind (Group_ a5 l6 (by omega)) ?_
  simp only [grp_dec]
  unfold State.ok
  cases q : machine_Load.ok a0 a1 a2 l3 l4 (grp a5 l6)
  · exact Ev.now _
  · simp only [if_true]
    have hp := ok_parts (a5 := a5) (l6 := l6) (show State.ok a0 a1 a2 l3 l4 a5 l6 = true from q)
    exact Ev.bind (bare_ _ (by omega) _ _) (Ev.bind (lay_ _ _ hd) (Make_ _ (fun _ => leaves_dig _ _ _)))
/-! ### the reference -/
def pick (i : Nat) (ps : List Pg) (c : Pg) : Pg := ps.foldl (fun c p => if p.f0 = (i : Int) then p else c) c
def refs (sz : Nat) (l3 : List Pg) : Nat → Nat → List Int
  | 0, _ => []
  | n + 1, i => lf (pick i l3 (bareP sz i)) :: refs sz l3 n (i + 1)
theorem refs_length (sz : Nat) (l3 : List Pg) : ∀ n i, (refs sz l3 n i).length = n
  | 0, _ => rfl
  | n + 1, i => by rw [refs, List.length_cons, refs_length sz l3 n (i + 1)]
theorem pick_mem (i : Nat) : ∀ (ps : List Pg) (c : Pg), pick i ps c = c ∨ pick i ps c ∈ ps
  | [], c => .inl rfl
  | p :: ps, c => by
    unfold pick
    rw [List.foldl_cons]
    rcases pick_mem i ps (if p.f0 = (i : Int) then p else c) with h | h
    · unfold pick at h
      rw [h]
      split
      · exact .inr (by simp)
      · exact .inl rfl
    · exact .inr (by unfold pick at h; simp [h])
theorem ref_pick (a0 : Int) (bl sz : Nat) (l3 : List Pg) (l4 : List Rw) (a5 : Int) (l6 : List Int) (hl : l3.length < 4611686018427387904) (i : Nat) (acc : List Int) (R : List (List Int) × Int) (d : Nat) : ∀ (m : Nat) (c : Pg), m + d = l3.length →
    Ev (fun k => (plinthref25_Leaf.f k (pick i (l3.drop m) c).f0 (pick i (l3.drop m) c).f1 (pick i (l3.drop m) c).f2).bind fun t => if acc.length < 35184372088832 then plinthref25_Of.l0 k (acc ++ [t]) (wrap64 ((i : Int) + 1)) a0 bl sz l3 l4 a5 l6 else none) R →
    Ev (fun k => plinthref25_Of.l1 k acc (i : Int) (m : Int) a0 bl sz l3 l4 a5 l6 c.f0 c.f1 c.f2) R := by
  induction d with
  | zero =>
    intro m c h hE
    rw [List.drop_of_length_le (by omega)] at hE
    refine Ev.step (fun k => ?_) hE
    rw [plinthref25_Of.l1, if_neg (by omega)]
    rfl
  | succ d ih =>
    intro m c h hE
    have hm : m < l3.length := by omega
    have e1 : l3.drop m = l3[m] :: l3.drop (m + 1) := List.drop_eq_getElem_cons hm
    have er := rdP_nat l3 m hm
    have ep : pick i (l3.drop m) c = pick i (l3.drop (m + 1)) (if l3[m].f0 = (i : Int) then l3[m] else c) := by
      rw [e1]; rfl
    rw [ep] at hE
    by_cases q : l3[m].f0 = (i : Int)
    · rw [if_pos q] at hE
      refine Ev.step (fun k => ?_) (ih (m + 1) (l3[m]) (by omega) hE)
      rw [plinthref25_Of.l1, if_pos (by omega), if_pos (by omega), er, if_pos q, w1 m (by omega)]
    · rw [if_neg q] at hE
      refine Ev.step (fun k => ?_) (ih (m + 1) c (by omega) hE)
      rw [plinthref25_Of.l1, if_pos (by omega), if_pos (by omega), er, if_neg q, w1 m (by omega)]
theorem ref_all (a0 : Int) (bl sz : Nat) (l3 : List Pg) (l4 : List Rw) (a5 : Int) (l6 : List Int) (hl : l3.length < 4611686018427387904) (hbl : bl ≤ 4096) (hsz : sz ≤ 4096) (hd : ∀ p ∈ l3, p.f2.length ≤ 140737488351232) (d : Nat) : ∀ (i : Nat) (acc : List Int), i + d = bl → acc.length = i →
    Ev (fun k => plinthref25_Of.l0 k acc (i : Int) a0 bl sz l3 l4 a5 l6) (makeOf (acc ++ refs sz l3 d i)) := by
  induction d with
  | zero =>
    intro i acc h ha
    refine Ev.step (fun k => by rw [plinthref25_Of.l0, if_neg (by omega)]) ?_
    rw [refs, List.append_nil]
    exact Ev.bind (ref_Make acc) (Ev.now _)
  | succ d ih =>
    intro i acc h ha
    refine Ev.step (f := fun k => plinthref25_Of.l1 k acc (i : Int) ((0 : Nat) : Int) a0 bl sz l3 l4 a5 l6 (bareP sz i).f0 (bareP sz i).f1 (bareP sz i).f2) (fun k => ?_) ?_
    · rw [plinthref25_Of.l0, if_pos (by omega), if_pos (by omega), if_pos (by rw [Int.toNat_natCast]; omega), Int.toNat_natCast]
      rfl
    · refine ref_pick a0 bl sz l3 l4 a5 l6 hl i acc _ l3.length 0 _ (by omega) ?_
      rw [List.drop_zero]
      refine Ev.bind (ref_Leaf _ _ _ ?_) ?_
      · rcases pick_mem i l3 (bareP sz i) with e | e
        · rw [e]
          show (List.replicate sz (0 : Int)).length ≤ _
          rw [List.length_replicate]
          omega
        · exact hd _ e
      · simp only [if_pos (show acc.length < 35184372088832 by omega), w1 i (by omega)]
        have := ih (i + 1) (acc ++ [lf (pick i l3 (bareP sz i))]) (by omega) (by rw [List.length_append, ha]; rfl)
        rw [List.append_assoc] at this
        exact this
theorem lays_get (i : Nat) : ∀ (ps : List Pg) (l : List Int) (c : Pg), (∀ p ∈ ps, 0 ≤ p.f0) → l[i]? = some (lf c) → (lays ps l)[i]? = some (lf (pick i ps c))
  | [], l, c, _, h => h
  | p :: ps, l, c, hp, h => by
    have hi : i < l.length := (List.getElem?_eq_some_iff.1 h).1
    have h0 := hp p (by simp)
    rw [lays, show pick i (p :: ps) c = pick i ps (if p.f0 = (i : Int) then p else c) from rfl]
    refine lays_get i ps _ _ (fun q hq => hp q (by simp [hq])) ?_
    rw [List.getElem?_set]
    by_cases e : p.f0 = (i : Int)
    · rw [if_pos (by omega), if_pos (by omega), if_pos e]
    · rw [if_neg (by omega), if_neg e, h]
theorem bares_get (sz : Nat) : ∀ (n i j : Nat), j < n → (bares sz n i)[j]? = some (lf (bareP sz (i + j)))
  | n + 1, i, 0, _ => rfl
  | n + 1, i, j + 1, h => by
    rw [bares, List.getElem?_cons_succ, bares_get sz n (i + 1) j (by omega), show i + 1 + j = i + (j + 1) by omega]
theorem refs_get (sz : Nat) (l3 : List Pg) : ∀ (n i j : Nat), j < n → (refs sz l3 n i)[j]? = some (lf (pick (i + j) l3 (bareP sz (i + j))))
  | n + 1, i, 0, _ => rfl
  | n + 1, i, j + 1, h => by
    rw [refs, List.getElem?_cons_succ, refs_get sz l3 n (i + 1) j (by omega), show i + 1 + j = i + (j + 1) by omega]
theorem leaves_refs (bl sz : Nat) (l3 : List Pg) (hp : ∀ p ∈ l3, 0 ≤ p.f0) : leaves bl sz l3 = refs sz l3 bl 0 := by
  apply List.ext_getElem?
  intro j
  by_cases hj : j < bl
  · rw [leaves, refs_get sz l3 bl 0 j hj, lays_get j l3 _ (bareP sz j) hp (by rw [bares_get sz bl 0 j hj, Nat.zero_add]), Nat.zero_add]
  · rw [List.getElem?_eq_none (by rw [leaves_length]; omega), List.getElem?_eq_none (by rw [refs_length]; omega)]
theorem ref_Of (a0 a1 a2 : Int) (l3 : List Pg) (l4 : List Rw) (a5 : Int) (l6 : List Int) (h3 : l3.length < 2 ^ 48) (h4 : l4.length < 2 ^ 48) (h6 : l6.length < 17592186044416) (hd : ∀ p ∈ l3, p.f2.length ≤ 140737488351232) :
    Ev (fun k => plinthref25_Of.f k a0 a1 a2 l3 l4 a5 l6) (ofOf a0 a1 a2 l3 l4 a5 l6) := by
  unfold plinthref25_Of.f ofOf
  refine Ev.bind (State_ a0 a1 a2 l3 l4 a5 l6 h3 (by omega)) ?_
  cases q : State.ok a0 a1 a2 l3 l4 a5 l6
  · exact Ev.now _
  · have hp := ok_parts q
    have hin := tree_Of.laid_in l3 (-1) (by omega) hp.2
    obtain ⟨bl, rfl⟩ : ∃ bl : Nat, a1 = bl := ⟨a1.toNat, by omega⟩
    obtain ⟨sz, rfl⟩ : ∃ sz : Nat, a2 = sz := ⟨a2.toNat, by omega⟩
    rw [Int.toNat_natCast, Int.toNat_natCast, leaves_refs bl sz l3 (fun p hp => (hin p hp).1)]
    have := ref_all a0 bl sz l3 l4 a5 l6 (by omega) (by omega) (by omega) hd bl 0 [] (by omega) rfl
    rw [List.nil_append] at this
    exact this
end Go.Proofs.Ytbmmddngadnofaa.Tree
