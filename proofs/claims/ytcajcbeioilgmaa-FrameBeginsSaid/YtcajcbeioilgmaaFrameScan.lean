/- All frames from the beginning on: the program's and the reference's answers. -/
import Derived.Test.YtcajcbeioilgmaaPlain
import Derived.Test.YtcajcbeioilgmaaFx27
import Derived.Test.YtcajcbeioilgmaaFx28
import Derived.Test.YtcajcbeioilgmaaFx29
namespace Go.Proofs.Ytcajcbeioilgmaa.Frame
open Go.RowKit Go.Proofs.Ytcajcbeioilgmaa.F Go.Proofs.Ytcajcbeioilgmaa.Octets Go.Proofs.Ytcajcbeioilgmaa.Crc Go.Proofs.Ytcajcbeioilgmaa.Bytes Go.Proofs.YtcajcbeioilgmaaW.PrintWords Go.Proofs.YtcajcbeioilgmaaW.PrintLast Go.Proofs.YtcajcbeioilgmaaW.PrintMore

theorem read_next {b : List Int} {a : Int} (h : (readOf b a).2.2.2.2 = 0) : 0 ≤ a ∧ a + 20 ≤ (readOf b a).2.2.2.1 ∧ (readOf b a).2.2.2.1 ≤ (b.length : Int) := by
  unfold readOf at h ⊢
  by_cases h0 : a < 0 ∨ (b.length : Int) < a
  · rw [if_pos h0] at h
    exact absurd h (by decide)
  · rw [if_neg h0] at h ⊢
    have hd : (b.drop a.toNat).length = b.length - a.toNat := List.length_drop
    generalize b.drop a.toNat = x at *
    unfold readAt at h ⊢
    by_cases h1 : x.length < 16
    · rw [if_pos h1] at h
      exact absurd h (by decide)
    rw [if_neg h1] at h ⊢
    by_cases h2 : ¬ (rd x 0 = 80 ∧ rd x 1 = 76 ∧ rd x 3 = 0 ∧ lengthOf x ≤ 16777216)
    · rw [if_pos h2] at h
      exact absurd h (by decide)
    rw [if_neg h2] at h ⊢
    by_cases h3 : x.length < (lengthOf x).toNat + 20
    · rw [if_pos h3] at h
      exact absurd h (by decide)
    rw [if_neg h3] at h ⊢
    by_cases h4 : (opened (x.take ((lengthOf x).toNat + 20))).2 ≠ 0
    · rw [if_pos h4] at h
      exact absurd h (by decide)
    rw [if_neg h4]
    dsimp only
    omega
def scanOf : Nat → List Int → List S26 → Int → List S26 × Int
  | 0, _, acc, a => (acc, a)
  | d + 1, b, acc, a => if (readOf b a).2.2.2.2 = 0 then scanOf d b (acc ++ [⟨(readOf b a).1, (readOf b a).2.1, (readOf b a).2.2.1⟩]) (readOf b a).2.2.2.1 else (acc, a)
theorem beyond {b : List Int} {a : Int} (h : (b.length : Int) < a) : (readOf b a).2.2.2.2 = 5 := by
  unfold readOf
  rw [if_pos (.inr h)]
theorem Scan_from (b : List Int) (hb : isByte b) (hl : b.length ≤ 16777216) (d : Nat) : ∀ (acc : List S26) (a : Int), 0 ≤ a → (acc.length : Int) ≤ a → a ≤ (b.length : Int) + 1 → (b.length : Int) < a + d → Ev (fun k => frame_Scan.l0 k b acc a) (scanOf d b acc a) := by
  induction d with
  | zero =>
    intro acc a h0 h1 h2 h3
    refine Ev.step (fun k => frame_Scan.l0.eq_2 _ _ _ k) ?_
    refine Ev.bind (Read_ b a hb (by omega)) ?_
    rw [beyond (by omega)]
    exact Ev.now _
  | succ d ih =>
    intro acc a h0 h1 h2 h3
    refine Ev.step (fun k => frame_Scan.l0.eq_2 _ _ _ k) ?_
    refine Ev.bind (Read_ b a hb (by omega)) ?_
    unfold scanOf
    by_cases hr : (readOf b a).2.2.2.2 = 0
    · have hn := read_next hr
      simp only [if_pos hr]
      simp only [show acc.length < 3518437208883 by omega, if_true, show a < (readOf b a).2.2.2.1 ∧ (readOf b a).2.2.2.1 ≤ (b.length : Int) from ⟨by omega, hn.2.2⟩, and_self]
      refine ih _ _ (by omega) ?_ (by omega) (by omega)
      rw [List.length_append, List.length_singleton]
      omega
    · simp only [if_neg hr]
      exact Ev.now _
theorem ref_Scan_from (b : List Int) (hb : isByte b) (hl : b.length ≤ 16777216) (d : Nat) : ∀ (acc : List S26) (a : Int), 0 ≤ a → (acc.length : Int) ≤ a → a ≤ (b.length : Int) + 1 → (b.length : Int) < a + d → Ev (fun k => plinthref03_Scan.l0 k b acc a) (scanOf d b acc a) := by
  induction d with
  | zero =>
    intro acc a h0 h1 h2 h3
    refine Ev.step (fun k => plinthref03_Scan.l0.eq_2 _ _ _ k) ?_
    refine Ev.bind (ref_Read b a hb (by omega)) ?_
    rw [beyond (by omega)]
    exact Ev.now _
  | succ d ih =>
    intro acc a h0 h1 h2 h3
    refine Ev.step (fun k => plinthref03_Scan.l0.eq_2 _ _ _ k) ?_
    refine Ev.bind (ref_Read b a hb (by omega)) ?_
    unfold scanOf
    by_cases hr : (readOf b a).2.2.2.2 = 0
    · have hn := read_next hr
      simp only [if_pos hr]
      simp only [show acc.length < 3518437208883 by omega, if_true]
      refine ih _ _ (by omega) ?_ (by omega) (by omega)
      rw [List.length_append, List.length_singleton]
      omega
    · simp only [if_neg hr]
      exact Ev.now _
theorem scan_length (b : List Int) (d : Nat) : ∀ (acc : List S26) (a : Int), (acc.length : Int) ≤ a → a ≤ (b.length : Int) → ((scanOf d b acc a).1.length : Int) ≤ b.length := by
  induction d with
  | zero => intro acc a h0 h1; show (acc.length : Int) ≤ _; omega
  | succ d ih =>
    intro acc a h0 h1
    unfold scanOf
    by_cases hr : (readOf b a).2.2.2.2 = 0
    · have hn := read_next hr
      rw [if_pos hr]
      refine ih _ _ ?_ hn.2.2
      rw [List.length_append, List.length_singleton]
      omega
    · rw [if_neg hr]
      show (acc.length : Int) ≤ _
      omega
def allOf (b : List Int) : List S26 × Int := scanOf (b.length + 1) b [] 0
theorem Scan_ (b : List Int) (hb : isByte b) (hl : b.length ≤ 16777216) : Ev (fun k => frame_Scan.f k b) (allOf b) := by
  unfold frame_Scan.f allOf
  exact Scan_from b hb hl (b.length + 1) [] 0 (by omega) (by simp) (by omega) (by omega)
theorem ref_Scan (b : List Int) (hb : isByte b) (hl : b.length ≤ 16777216) : Ev (fun k => plinthref03_Scan.f k b) (allOf b) := by
  unfold plinthref03_Scan.f allOf
  exact ref_Scan_from b hb hl (b.length + 1) [] 0 (by omega) (by simp) (by omega) (by omega)
theorem all_length (b : List Int) : (allOf b).1.length ≤ b.length := by
  have := scan_length b (b.length + 1) [] 0 (by simp) (by omega)
  unfold allOf
  omega
theorem same_from (l : List S26) (hl : l.length ≤ 9223372036854775807) (d : Nat) : ∀ i : Nat, i + d = l.length → Ev (fun k => plinthref03_SameAll.l0 k l l (i : Int)) true := by
  induction d with
  | zero =>
    intro i h
    refine Ev.step (f := fun _ => some true) (fun k => ?_) (Ev.now _)
    rw [plinthref03_SameAll.l0, if_neg (by omega)]
  | succ d ih =>
    intro i h
    refine Ev.step (f := fun k => plinthref03_SameAll.l0 k l l ((i + 1 : Nat) : Int)) (fun k => ?_) (ih (i + 1) (by omega))
    rw [plinthref03_SameAll.l0, if_pos (by omega), if_pos (by omega), if_pos (by omega), ref_same_self, Option.bind_some, if_pos rfl, wrap_next i l.length (by omega) hl]
theorem same_all (l : List S26) (hl : l.length ≤ 9223372036854775807) : Ev (fun k => plinthref03_SameAll.f k l l) true := by
  unfold plinthref03_SameAll.f
  simp only [if_true]
  exact same_from l hl l.length 0 (by omega)
end Go.Proofs.Ytcajcbeioilgmaa.Frame
