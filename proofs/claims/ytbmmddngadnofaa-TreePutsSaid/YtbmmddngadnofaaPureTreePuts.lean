/- TreePuts: a state (not more than 64 blocks of 64 bytes, 70 pages and rows) whose page is another one, of not more than 100 bytes, has the tree in which that page's digest was put. No condition. -/
import Derived.Test.YtbmmddngadnofaaTreeState
import Derived.Test.YtbmmddngadnofaaTreePut
import Derived.Test.YtbmmddngadnofaaFx57
import Derived.Test.YtbmmddngadnofaaAskTreePuts
namespace Go.Proofs.Ytbmmddngadnofaa.Pure
open Go.RowKit Go.Proofs.Ytbmmddngadnofaa.F Go.Proofs.Ytbmmddngadnofaa.Tree Go.Proofs.Ytbmmddngadnofaa.Octets Go.Proofs.YtbmmddngadnofaaW.PrintWords Go.Proofs.YtbmmddngadnofaaW.PrintLast Go.Proofs.YtbmmddngadnofaaW.PrintMore
set_option linter.unusedSimpArgs false
set_option linter.unusedVariables false
open State (Pg Rw)
theorem pick_none (i : Nat) : ∀ (ps : List Pg) (c : Pg), (∀ q ∈ ps, q.f0 ≠ (i : Int)) → pick i ps c = c
  | [], c, _ => rfl
  | p :: ps, c, h => by
    show pick i ps (if p.f0 = (i : Int) then p else c) = c
    rw [if_neg (h p (by simp))]
    exact pick_none i ps c (fun q hq => h q (by simp [hq]))
theorem laid_gt {bl sz : Nat} : ∀ (ps : List Pg) (last : Int), volume_Load.laidAll bl sz last ps = true → ∀ q ∈ ps, last < q.f0
  | [], _, _, q, hq => by cases hq
  | p :: ps, last, h, q, hq => by
    rw [State.laid_cons, Bool.and_eq_true] at h
    have h1 := of_decide_eq_true h.1
    rcases List.mem_cons.1 hq with rfl | hq
    · exact h1.1
    · exact Int.lt_trans h1.1 (laid_gt ps p.f0 h.2 q hq)
theorem pick_one {bl sz : Nat} (i : Nat) (x : Pg) (hx : x.f0 = (i : Int)) : ∀ (ps : List Pg) (last : Int) (c : Pg), volume_Load.laidAll bl sz last ps = true → x ∈ ps → pick i ps c = x
  | [], _, _, _, hm => by cases hm
  | p :: ps, last, c, h, hm => by
    rw [State.laid_cons, Bool.and_eq_true] at h
    show pick i ps (if p.f0 = (i : Int) then p else c) = x
    rcases List.mem_cons.1 hm with rfl | hm
    · rw [if_pos hx]
      exact pick_none i ps x (fun q hq => by have := laid_gt ps x.f0 h.2 q hq; omega)
    · exact pick_one i x hx ps p.f0 _ h.2 hm
theorem pick_set (j : Nat) (x : Pg) (hx : x.f0 ≠ (j : Int)) : ∀ (ps : List Pg) (i : Nat) (c : Pg), (∀ h : i < ps.length, ps[i].f0 = x.f0) → pick j (ps.set i x) c = pick j ps c
  | [], _, _, _ => rfl
  | p :: ps, 0, c, h => by
    have hp : p.f0 = x.f0 := h (by simp)
    show pick j ps (if x.f0 = (j : Int) then x else c) = pick j ps (if p.f0 = (j : Int) then p else c)
    rw [if_neg hx, if_neg (by rw [hp]; exact hx)]
  | p :: ps, i + 1, c, h => by
    show pick j (ps.set i x) (if p.f0 = (j : Int) then p else c) = pick j ps (if p.f0 = (j : Int) then p else c)
    exact pick_set j x hx ps i _ (fun hi => h (by simpa using hi))
theorem leaves_set (bl sz : Nat) (l : List Pg) (i : Nat) (x : Pg) (hi : i < l.length) (hx : l[i].f0 = x.f0) (h1 : volume_Load.laidAll bl sz (-1) l = true) (h2 : volume_Load.laidAll bl sz (-1) (l.set i x) = true) :
    leaves bl sz (l.set i x) = (leaves bl sz l).set x.f0.toNat (lf x) := by
  have p1 := fun q hq => (tree_Of.laid_in l (-1) (by omega) h1 q hq).1
  have p2 := fun q hq => (tree_Of.laid_in (l.set i x) (-1) (by omega) h2 q hq).1
  have hxm : x ∈ l.set i x := List.mem_iff_getElem.2 ⟨i, by simpa using hi, by simp⟩
  have hx0 := p2 x hxm
  apply List.ext_getElem?
  intro j
  by_cases hj : j < bl
  · rw [leaves_refs bl sz _ p2, refs_get sz _ bl 0 j hj, Nat.zero_add, List.getElem?_set, leaves_length]
    by_cases e : x.f0.toNat = j
    · rw [if_pos e, if_pos (by omega), pick_one j x (by omega) _ (-1) _ h2 hxm]
    · rw [if_neg e, leaves_refs bl sz _ p1, refs_get sz _ bl 0 j hj, Nat.zero_add, pick_set j x (by omega) l i _ (fun _ => hx)]
  · rw [List.getElem?_eq_none (by rw [leaves_length]; omega), List.getElem?_eq_none (by rw [List.length_set, leaves_length]; omega)]
theorem base_tree (l : List Int) : base (tree l) = l := by rw [tree_eq]; rfl
theorem good_tree {l : List Int} (h : 1 ≤ l.length ∧ l.length ≤ 4096) : good (tree l) := by
  unfold good
  rw [base_tree]
  exact ⟨h, rfl⟩
theorem small_pages {a0 a1 a2 : Int} {l3 : List Pg} {l4 : List Rw} {a5 : Int} {l6 : List Int} (h : plinthlaw25_small.f a0 a1 a2 l3 l4 a5 l6 = some true) : l3.length ≤ 70 := by
  unfold plinthlaw25_small.f at h
  repeat' split at h
  all_goals first | (cases h; done) | omega
theorem TreePuts : plinthlaw25_TreePuts.Pure := by
  intro x0 x1 x2 x3 h0 h1 h2 h3
  obtain ⟨_, _, ⟨_, hl3, hd⟩, ⟨_, hl4, _⟩, _, _, hl6, _⟩ := h0
  have h1' := bounds_u8 h1
  refine Ev.rounds (g := fun k => plinthlaw25_TreePuts.f k x0.f0 x0.f1.f0 x0.f1.f1 x0.f2 x0.f3 x0.f4.f0 x0.f4.f1 x1 x2 x3) ?_
  obtain ⟨b, hb⟩ := small_some x0.f0 x0.f1.f0 x0.f1.f1 x0.f2 x0.f3 x0.f4.f0 x0.f4.f1
  have hdd : ∀ p ∈ x0.f2, p.f2.length ≤ 140737488351232 := fun p hp => by
    have := (hd p hp).2.2.2.1
    omega
  have hx2 := h2.2.1
  clear hd h1 h2 h3
  generalize x0.f0 = a0 at *
  generalize x0.f1.f0 = a1 at *
  generalize x0.f1.f1 = a2 at *
  generalize x0.f2 = l3 at *
  generalize x0.f3 = l4 at *
  generalize x0.f4.f0 = a5 at *
  generalize x0.f4.f1 = l6 at *
  unfold plinthlaw25_TreePuts.f
  refine Ev.bind awake_ ?_
  simp only [hb, Option.bind_some, if_true]
  cases b
  · exact Ev.now _
  simp only [if_true]
  have h70 := small_pages hb
  refine Ev.bind (State.State_ a0 a1 a2 l3 l4 a5 l6 (by omega) (by omega)) ?_
  cases q : State.ok a0 a1 a2 l3 l4 a5 l6
  · exact Ev.now _
  simp only [if_true]
  by_cases c1 : l3.length = 0
  · simp only [if_pos c1]
    exact Ev.now _
  simp only [if_neg c1]
  by_cases c2 : 100 < x2.length
  · simp only [if_pos c2]
    exact Ev.now _
  simp only [if_neg c2]
  simp only [if_pos (show 0 ≤ x1 ∧ x1 < 256 ∧ l3.length ≤ 70 by omega)]
  obtain ⟨i, hi⟩ : ∃ i : Nat, x1 % (l3.length : Int) = (i : Int) := ⟨(x1 % (l3.length : Int)).toNat, by rw [Int.toNat_of_nonneg]; exact Int.emod_nonneg _ (by omega)⟩
  have hlt : i < l3.length := by have := Int.emod_lt_of_pos x1 (show (0 : Int) < (l3.length : Int) by omega); omega
  rw [hi, Int.toNat_natCast]
  have er := State.rdP_nat l3 i hlt
  rw [er]
  obtain ⟨x, hx⟩ : ∃ x : Pg, x = ⟨l3[i].f0, x3, x2⟩ := ⟨_, rfl⟩
  rw [← hx]
  have hset : (l3.set i x).length = l3.length := List.length_set
  have hdd2 : ∀ p ∈ l3.set i x, p.f2.length ≤ 140737488351232 := fun p hp => by
    rcases List.mem_or_eq_of_mem_set hp with hp | rfl
    · exact hdd p hp
    · rw [hx]; show x2.length ≤ _; omega
  unfold plinthlaw25_TreePuts.g
  refine Ev.bind (State.State_ a0 a1 a2 (l3.set i x) l4 a5 l6 (by omega) (by omega)) ?_
  cases q2 : State.ok a0 a1 a2 (l3.set i x) l4 a5 l6
  · exact Ev.now _
  simp only [if_true]
  have o1 := Of_ a0 a1 a2 l3 l4 a5 l6 (by omega) (by omega) (by omega) hdd
  have o2 := Of_ a0 a1 a2 (l3.set i x) l4 a5 l6 (by omega) (by omega) (by omega) hdd2
  have p1 := ok_parts q
  have p2 := ok_parts q2
  obtain ⟨bl, rfl⟩ : ∃ bl : Nat, a1 = bl := ⟨a1.toNat, by omega⟩
  obtain ⟨sz, rfl⟩ : ∃ sz : Nat, a2 = sz := ⟨a2.toNat, by omega⟩
  simp only [Int.toNat_natCast] at p1 p2
  have hL := leaves_length bl sz l3
  have hL2 := leaves_length bl sz (l3.set i x)
  rw [ofOf, if_pos q, Int.toNat_natCast, Int.toNat_natCast, makeOf, if_pos (by omega)] at o1
  rw [ofOf, if_pos q2, Int.toNat_natCast, Int.toNat_natCast, makeOf, if_pos (by omega)] at o2
  have hxe : l3[i].f0 = x.f0 := by rw [hx]
  have hx2' : x.f2.length ≤ 140737488351232 := by rw [hx]; show x2.length ≤ _; omega
  have hin := tree_Of.laid_in l3 (-1) (by omega) p1.2 l3[i] (List.getElem_mem _)
  rw [hxe] at hin
  have hls := leaves_set bl sz l3 i x hlt hxe p1.2 p2.2
  have hdig := leaves_dig bl sz l3
  have hdig2 := leaves_dig bl sz (l3.set i x)
  have hgd := good_tree (l := leaves bl sz l3) (by omega)
  have hsl := tree_slim hdig (show (leaves bl sz l3).length ≤ 4096 by omega)
  refine Ev.bind o1 (Ev.bind o2 (Ev.bind (Leaf_ x.f0 x.f1 x.f2 hx2') (Ev.bind (PutT_ (tree (leaves bl sz l3)) (slim_thin hsl) (fun r hr => (hsl.2 r hr).1) x.f0 (leafD x.f0 x.f1 x.f2) (leafD_range _ _ _)) ?_)))
  rw [putT, if_pos hgd, base_tree, if_pos (by omega)]
  unfold plinthlaw25_TreePuts.fin
  simp only [if_true]
  have hs := make_same (leaves bl sz (l3.set i x)) hdig2
  rw [makeOf, if_pos (by omega)] at hs
  rw [show leafD x.f0 x.f1 x.f2 = lf x from rfl, ← hls]
  exact hs
end Go.Proofs.Ytbmmddngadnofaa.Pure
