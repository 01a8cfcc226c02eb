/- What a value of a kind (Kd) is, out of a row's reading: whole numbers, truths, texts, slices and structs of whatever such kinds, each as large as the row's weights let it be. -/
import Derived.Test.YtbmmddngadnofaaVoc0
import Derived.Deep.Slices
import Derived.OpenShut
import Derived.Below
namespace Go.Proofs.Ytbmmddngadnofaa.RowKinds
open Go.ChangeShapes Go.WideShapes Go.RowKit Go.Proofs.YtbmmddngadnofaaW.PrintWords

/-- What is read at type t, with all weights in their bounds, is a value of kind d that fits. -/
def Opens (P : Program) {α : Type} (d : Kd α) (t : TypeId) (Fit : α → Prop) : Prop :=
  ∀ (H : Type) (enc : TypeId × Value → H) (w : World) (fuel : Nat) (cs : List Value) (x : DataW H × List MemPlace),
    DataW.trod enc P w 0 (fun _ => true) true fuel t cs = some x → (x.1.weights P t).all (· ≤ reachBytes) = true → ∃ a, d.K w a cs ∧ Fit a
theorem opens_int {P : Program} {t : TypeId} {k : IntKind} (ht : P.underlying t = some (.int k)) : Opens P (Kd.int k) t (fun n => (Lit.int k n).wf = true) := by
  intro H enc w fuel cs x h _
  obtain ⟨n, rfl, _, hw⟩ := DataW.trod_int ht h
  exact ⟨n, rfl, hw⟩
theorem opens_bool {P : Program} {t : TypeId} (ht : P.underlying t = some .bool) : Opens P Kd.bool t (fun _ => True) := by
  intro H enc w fuel cs x h _
  obtain ⟨b, rfl, _⟩ := DataW.trod_bool ht h
  exact ⟨b, rfl, trivial⟩
theorem opens_string {P : Program} {t : TypeId} (ht : P.underlying t = some .string) : Opens P Kd.string t (fun s => s.size ≤ 140737488351232) := by
  intro H enc w fuel cs x h hz
  obtain ⟨s, rfl, rfl, _⟩ := DataW.trod_string ht h
  refine ⟨s, rfl, ?_⟩
  simp [DataW.weights, reachBytes] at hz
  exact of_decide_eq_true hz
/-- From 'for every i < n there is one' to a row of them. -/
theorem row_of {α : Type} {p : Nat → α → Prop} (n : Nat) (h : ∀ i, i < n → ∃ x, p i x) : ∃ l : List α, l.length = n ∧ ∀ (i : Nat) x, l[i]? = some x → p i x := by
  induction n with
  | zero => exact ⟨[], rfl, fun i x hx => by simp at hx⟩
  | succ n ih =>
    obtain ⟨l, hl, hp⟩ := ih (fun i hi => h i (by omega))
    obtain ⟨x, hx⟩ := h n (by omega)
    refine ⟨l ++ [x], by simp [hl], fun i y hy => ?_⟩
    by_cases hi : i < n
    · rw [List.getElem?_append_left (by omega)] at hy
      exact hp i y hy
    · rw [List.getElem?_append_right (by omega)] at hy
      have hin : i = n := by
        have := (List.getElem?_eq_some_iff.1 hy).1
        simp at this
        omega
      subst hin
      rw [hl, Nat.sub_self] at hy
      cases hy
      exact hx
theorem weightsAll_mem {H : Type} {P : Program} {e : TypeId} {ds : List (DataW H)} (h : (DataW.weightsAll P e ds).all (· ≤ reachBytes) = true) : ∀ d ∈ ds, (d.weights P e).all (· ≤ reachBytes) = true := by
  induction ds with
  | nil => intro d hd; cases hd
  | cons d ds ih =>
    intro y hy
    rw [DataW.weightsAll, List.all_append, Bool.and_eq_true] at h
    rcases List.mem_cons.1 hy with rfl | hy
    · exact h.1
    · exact ih h.2 y hy
theorem weightsEach_get {H : Type} {P : Program} : ∀ {ts : List TypeId} {ds : List (DataW H)}, (DataW.weightsEach P ts ds).all (· ≤ reachBytes) = true → ∀ (j : Nat) t d, ts[j]? = some t → ds[j]? = some d → (d.weights P t).all (· ≤ reachBytes) = true := by
  intro ts
  induction ts with
  | nil => intro ds h j t d ht; simp at ht
  | cons t0 ts ih =>
    intro ds h j t d ht hd
    cases ds with
    | nil => simp at hd
    | cons d0 ds =>
      rw [DataW.weightsEach, List.all_append, Bool.and_eq_true] at h
      cases j with
      | zero =>
        simp at ht hd
        subst ht
        subst hd
        exact h.1
      | succ j => exact ih h.2 j t d (by simpa using ht) (by simpa using hd)
theorem opens_slice {P : Program} {α : Type} {d : Kd α} {t e : TypeId} {Fit : α → Prop} (q B : Nat) (ht : P.underlying t = some (.slice e)) (hc : P.cellsOf e = d.sz) (hB : P.bytesOf e = B) (he : Opens P d e Fit) :
    Opens P (Kd.slice q d) t (fun l => l.length ≤ maxLen ∧ l.length * B ≤ 140737488351232 ∧ ∀ x ∈ l, Fit x) := by
  intro H enc w fuel cs x h hz
  rcases Go.Deep.open_slice ht h with ⟨rfl, rfl⟩ | ⟨a, len, cap, m, n, D, Pl, rfl, _, hl, hm, hmm, rfl, hel⟩
  · exact ⟨[], ⟨none, 0, rfl, Nat.le_refl _, rfl, by simp, fun h0 => absurd h0 (by simp)⟩, by simp, by simp, fun x hx => by cases hx⟩
  · simp only [if_true] at hmm
    subst hmm
    rw [DataW.weights, ht] at hz
    simp only [List.all_cons, List.all_append, Bool.and_eq_true, decide_eq_true_eq, List.length_map, List.length_range] at hz
    obtain ⟨z0, z1, _⟩ := hz
    have key : ∀ i, i < len → ∃ y, ∃ c, w.cells? 0 (a.add (i * P.cellsOf e)) (P.cellsOf e) = some c ∧ d.K w y c ∧ Fit y := by
      intro i hi
      obtain ⟨c, hcell, ht'⟩ := hel i (by omega)
      obtain ⟨y, hK, hF⟩ := he H enc w n c _ ht' (weightsAll_mem z1 _ (List.mem_map.2 ⟨i, List.mem_range.2 hi, rfl⟩))
      exact ⟨y, c, hcell, hK, hF⟩
    obtain ⟨l, hll, hp⟩ := row_of len key
    refine ⟨l, ⟨some a, m, by rw [hll], by omega, rfl, ?_, fun _ => ⟨a, rfl, fun j y hy => ?_⟩⟩, ?_, ?_, fun y hy => ?_⟩
    · have : maxLen = 9223372036854775807 := by decide
      omega
    · obtain ⟨c, hcell, hK, _⟩ := hp j y hy
      have hlen := d.K_len hK
      refine ⟨c, hlen, hK, fun i u hu => ?_⟩
      have hcs := World.cells?_some hcell
      have hi : i < P.cellsOf e := by
        have := (List.getElem?_eq_some_iff.1 hu).1
        omega
      have h2 := hcs.2.2 i hi
      rw [Go.Deep.add_add, hc] at h2
      rw [h2, hu]
    · omega
    · rw [hll]
      have : reachBytes = 140737488351232 := by decide
      rw [hB, this] at z0
      exact Nat.le_trans (Nat.mul_le_mul_right _ (by omega)) z0
    · obtain ⟨i, hi⟩ := List.mem_iff_getElem?.1 hy
      obtain ⟨_, _, _, hF⟩ := hp i y hi
      exact hF
/-- The fields from the one at place off on. -/
def OpensFs (P : Program) {α : Type} (d : Kd α) (fs : List Field) (off : Nat) (Fit : α → Prop) : Prop :=
  ∀ (H : Type) (enc : TypeId × Value → H) (w : World) (n : Nat) (cs : List Value) (xs : List (DataW H × List MemPlace)), xs.length = fs.length →
    (∀ (i : Nat) f, fs[i]? = some f → DataW.trod enc P w 0 (fun _ => true) true n f.type ((cs.drop f.offset).take (P.cellsOf f.type)) = xs[i]?) → off + d.sz = cs.length →
    (DataW.weightsEach P (fs.map (·.type)) (xs.map (·.1))).all (· ≤ reachBytes) = true → ∃ a, d.K w a (cs.drop off) ∧ Fit a
theorem opensFs_one {P : Program} {α : Type} {d : Kd α} {f : Field} {off : Nat} {Fit : α → Prop} (ho : f.offset = off) (hc : P.cellsOf f.type = d.sz) (h : Opens P d f.type Fit) : OpensFs P d [f] off Fit := by
  intro H enc w n cs xs hl ht hs hz
  match xs, hl with
  | [x], _ =>
    have h0 := ht 0 f rfl
    rw [ho, hc, List.take_of_length_le (by rw [List.length_drop]; omega)] at h0
    exact h H enc w n _ x (by simpa using h0) (weightsEach_get hz 0 _ _ rfl rfl)
theorem opensFs_cons {P : Program} {α β : Type} {d : Kd α} {d' : Kd β} {f : Field} {fs : List Field} {off : Nat} {Fit : α → Prop} {Fit' : β → Prop} (ho : f.offset = off) (hc : P.cellsOf f.type = d.sz) (h : Opens P d f.type Fit)
    (hr : OpensFs P d' fs (off + d.sz) Fit') : OpensFs P (Kd.pair d d') (f :: fs) off (fun p => Fit p.1 ∧ Fit' p.2) := by
  intro H enc w n cs xs hl ht hs hz
  match xs, hl with
  | x :: xs, hl =>
    have hs' : off + (d.sz + d'.sz) = cs.length := hs
    have h0 := ht 0 f rfl
    rw [ho, hc] at h0
    obtain ⟨a, hK, hF⟩ := h H enc w n _ x (by simpa using h0) (weightsEach_get hz 0 _ _ rfl rfl)
    have hz' : (DataW.weightsEach P (fs.map (·.type)) (xs.map (·.1))).all (· ≤ reachBytes) = true := by
      rw [List.map_cons, List.map_cons, DataW.weightsEach, List.all_append, Bool.and_eq_true] at hz
      exact hz.2
    obtain ⟨b, hK', hF'⟩ := hr H enc w n cs xs (by simpa using hl) (fun i g hg => by simpa using ht (i + 1) g (by simpa using hg)) (by omega) hz'
    refine ⟨(a, b), ⟨_, _, ?_, hK, hK'⟩, hF, hF'⟩
    rw [← List.drop_drop, List.take_append_drop]
theorem opens_struct {P : Program} {α β : Type} {d : Kd α} {t : TypeId} {fs : Array Field} {Fit : α → Prop} (g : β → α) (mk : α → β) (hg : ∀ p, g (mk p) = p) (ht : P.underlying t = some (.struct fs)) (hc : P.cellsOf t = d.sz)
    (h : OpensFs P d fs.toList 0 Fit) : Opens P (Kd.iso d g) t (fun x => Fit (g x)) := by
  intro H enc w fuel cs x hx hz
  obtain ⟨xs, n, _, rfl, hl, hlen, hf⟩ := DataW.trod_struct ht hx
  have hz' : (DataW.weightsEach P (fs.toList.map (·.type)) (xs.map (·.1))).all (· ≤ reachBytes) = true := by
    rw [DataW.weights, ht] at hz
    exact hz
  obtain ⟨a, hK, hF⟩ := h H enc w n cs xs (by simpa using hlen) (fun i f hi => hf i f (by simpa using hi)) (by omega) hz'
  refine ⟨mk a, ?_, ?_⟩
  · show d.K w (g (mk a)) cs
    rw [hg]
    simpa using hK
  · show Fit (g (mk a))
    rw [hg]
    exact hF
/-- A parameter's value: of its kind. -/
theorem opens_arg {P : Program} {α : Type} {d : Kd α} {t : TypeId} {Fit : α → Prop} (h : Opens P d t Fit) {H : Type} {enc : TypeId × Value → H} {w : World} {v : Value} {x : DataW H} {ps : List MemPlace} {ts : List TypeId} {ds : List (DataW H)} {j : Nat}
    (hz : (DataW.weightsEach P ts ds).all (· ≤ reachBytes) = true) (ht : ts[j]? = some t) (hd : ds[j]? = some x) (hx : DataW.Trod enc P w 0 (fun _ => true) true t v x ps) : ∃ a, d.K w a v.cells.toList ∧ Fit a := by
  obtain ⟨fuel, hf⟩ := hx
  exact h H enc w fuel _ _ hf (weightsEach_get hz j t x ht hd)
end Go.Proofs.Ytbmmddngadnofaa.RowKinds
