-- Written by ext (this session's own program).
-- in short rows (short.py)
import Derived.Test.YtbmmddngadnofaaFx0
import Derived.RangeFuncNested
import Derived.Shelf.Abstract
import Derived.OwnWalkIn
import Derived.TacticsInMore
import Derived.LoopNIn
import Derived.LoopIn
namespace Go.Proofs.Ytbmmddngadnofaa.F
open Go.RowKit Go.Proofs.YtbmmddngadnofaaW.PrintWords Go.Proofs.YtbmmddngadnofaaW.PrintLast Go.Proofs.YtbmmddngadnofaaW.PrintMore
attribute [local go_sem] max2_int min2_int max_two min_two max_three min_three max_four min_four   -- for this text's walks alone
set_option linter.unusedVariables false
set_option linter.unusedSimpArgs false

/-! ### plinthlaw25_cut: function 12 -/
open Go.Shelf
attribute [local go_sem] Oper.semAt_some
def plinthlaw25_cut.rd (xs : List (List Int)) (i : Int) : List Int := xs.getD i.toNat []
theorem plinthlaw25_cut.at_ {w : World} {A : Option Addr} {n : Nat} {xs : List (List Int)} (h : Kd.C (Kd.slice 25 (Kd.int .u32)) w A n xs) (i : Int) (h0 : 0 ≤ i) (h1 : i < n) : ∃ ad A0 c0, A = some ad ∧ w.cell? (ad.add i.toNat) = some (.slice A0 (plinthlaw25_cut.rd xs i).length c0) := by
 obtain ⟨ad, c, e, _, hK, hc0⟩ := Kd.C_get h ([] : List Int) i h0 h1
 have hc : ∀ j u, c[j]? = some u → w.cell? (ad.add (i.toNat * 1 + j)) = some u := hc0
 obtain ⟨A0, c0, rfl, l0, g0⟩ := hK
 exact ⟨ad, A0, c0, e, by have hq := hc 0 _ rfl; rwa [Nat.mul_one, Nat.add_zero] at hq⟩
def plinthlaw25_cut.l0 : Nat → List (List Int) → Int → Option (List (List Int))
 | 0, _, _ => none
 | k + 1, l, i => if i < (l.length : Int) then (if 4097 < ((plinthlaw25_cut.rd l i).length : Int) then some [] else plinthlaw25_cut.l0 k l (i + 1)) else some l
def plinthlaw25_cut.f (k : Nat) (l : List (List Int)) : Option (List (List Int)) := if 12 < l.length then plinthlaw25_cut.l0 k (l.take 12) 0 else plinthlaw25_cut.l0 k l 0
theorem plinthlaw25_cut.mono_l : ∀ k, (∀ y0 y1, LeO (plinthlaw25_cut.l0 k y0 y1) (plinthlaw25_cut.l0 (k + 1) y0 y1))
 | 0 => fun _ _ r h => by simp [plinthlaw25_cut.l0] at h
 | k + 1 => by
  have ih0 := plinthlaw25_cut.mono_l k
  intro y0 y1
  unfold plinthlaw25_cut.l0
  repeat' first
   | (with_reducible exact ih0 _ _)
   | (with_reducible exact LeO.refl _)
   | (with_reducible exact LeO.none _)
   | (with_reducible refine LeO.ite ?_ ?_)
   | (with_reducible refine LeO.bind ?_ (fun _ => ?_))
theorem plinthlaw25_cut.mono : ∀ a0 k, LeO (plinthlaw25_cut.f k a0) (plinthlaw25_cut.f (k + 1) a0) := by
 intro a0 k
 have ih0 := plinthlaw25_cut.mono_l k
 unfold plinthlaw25_cut.f
 repeat' first
  | (with_reducible exact ih0 _ _)
  | (with_reducible exact LeO.refl _)
  | (with_reducible exact LeO.none _)
  | (with_reducible refine LeO.ite ?_ ?_)
theorem plinthlaw25_cut.info_ : (Try.prog.info? 40).map (fun i => (i.zero, i.size, i.bytes)) = some (some (.slice none 0 0), 1, 24) := by kernel_rfl
/-- What is shared reads as it does behind what only lays new blocks. -/
theorem plinthlaw25_cut.share {w W : World} {P : Nat → Prop} {A : Option Addr} {c : Nat} {l : List (List Int)} (hb : Below w.heap.size w W) (h : Kd.V (Kd.slice 25 (Kd.int .u32)) 40 w w.heap.size P (.slice A l.length c) l) : Kd.V (Kd.slice 25 (Kd.int .u32)) 40 W w.heap.size (fun k => P k ∨ w.heap.size ≤ k) (.slice A l.length c) l := by
 obtain ⟨A', c', e, hc, hF⟩ := h
 obtain ⟨rfl, _, rfl⟩ := Value.slice.inj e
 refine ⟨A, c, rfl, hc, fun W' hW => hF W' (fun k hk hlt => ?_)⟩
 exact (hW k (.inl hk) (Nat.lt_of_lt_of_le hlt hb.size)).trans (hb.block k hlt)
theorem plinthlaw25_cut.reads {W : World} {P : Nat → Prop} {b : Nat} {A : Option Addr} {c : Nat} {l : List (List Int)} (h : Kd.V (Kd.slice 25 (Kd.int .u32)) 40 W b P (.slice A l.length c) l) : l.length ≤ c ∧ Kd.C (Kd.slice 25 (Kd.int .u32)) W A l.length l := by
 obtain ⟨A', c', e, hc, hF⟩ := h
 obtain ⟨rfl, _, rfl⟩ := Value.slice.inj e
 exact ⟨hc, hF W (fun _ _ _ => rfl)⟩
theorem plinthlaw25_cut.take {W : World} {P : Nat → Prop} {b : Nat} {A : Option Addr} {c : Nat} {l : List (List Int)} (h : Kd.V (Kd.slice 25 (Kd.int .u32)) 40 W b P (.slice A l.length c) l) (hl : 12 < l.length) : Kd.V (Kd.slice 25 (Kd.int .u32)) 40 W b P (.slice A (l.take 12).length c) (l.take 12) := by
 obtain ⟨A', c', e, hc, hF⟩ := h
 obtain ⟨rfl, _, rfl⟩ := Value.slice.inj e
 refine ⟨A, c, rfl, by rw [List.length_take]; omega, fun W' hW => Kd.C_take (hF W' hW) (by omega)⟩
theorem plinthlaw25_cut.nil (W : World) (b : Nat) (P : Nat → Prop) : Kd.V (Kd.slice 25 (Kd.int .u32)) 40 W b P (.slice none 0 0) [] :=
 ⟨none, 0, rfl, Nat.le_refl _, fun W' _ => ⟨rfl, by simp, fun hp => absurd hp (by simp)⟩⟩
set_option maxHeartbeats 4000000 in
set_option maxRecDepth 100000 in
/-- From the loop on. -/
theorem plinthlaw25_cut.calls (k : Nat) (P0_0_ : Nat → Prop) (A0_0 : Option Addr) (c0_0 : Nat) (l0_0 : List (List Int)) (r : List (List Int)) (w : World) (hs0_0 : Kd.V (Kd.slice 25 (Kd.int .u32)) 40 w w.heap.size (fun k_ => P0_0_ k_) (.slice A0_0 l0_0.length c0_0) l0_0) (h : plinthlaw25_cut.f k l0_0 = some r) :
  Calls Try.prog 12 #[.agg #[.slice A0_0 l0_0.length c0_0]] w fun e w' => ∃ v0_ : Value, e = .returned (.agg #[v0_]) ∧ Kd.V (Kd.slice 25 (Kd.int .u32)) 40 w' w.heap.size (fun k_ => (P0_0_ k_ ∨ w.heap.size ≤ k_)) v0_ r ∧ Below w.heap.size w w' := by
 have hu24 := Try.underlying24
 have hb0 : Below w.heap.size w ((w.alloc (Obj.cells #[.slice A0_0 l0_0.length c0_0] 24)).alloc (Obj.cells #[.slice none 0 0] 24)) := ((Below.refl _ w).alloc (Nat.le_refl _) _).alloc (by simp) _
 obtain ⟨hc, hC0⟩ := plinthlaw25_cut.reads (W := w) hs0_0
 unfold plinthlaw25_cut.f at h
 go_enter Try.func12, Try.ntmps12
 obtain ⟨l1, hl1⟩ : ∃ l1, l1 = (if 12 < l0_0.length then l0_0.take 12 else l0_0) := ⟨_, rfl⟩
 by_cases c1 : 12 < l0_0.length
 ·rw [if_pos c1] at h hl1
  have c1b : decide (12 < (l0_0.length : Int)) = true := decide_eq_true (by omega)
  obtain ⟨i0, hi0, hz0, hz1, hz2⟩ := info_parts plinthlaw25_cut.info_
  have hcut := cut_to (P := Try.prog) 22 40 .i64 Try.underlying22 hi0 A0_0 l0_0.length c0_0 12 (by decide) (by omega) hc
  go_wp2
  have e12 : (l0_0.take 12).length = 12 := by rw [List.length_take]; omega
  have hs1 := plinthlaw25_cut.take hs0_0 c1
  obtain ⟨hcL, hCL⟩ := plinthlaw25_cut.reads (W := w) hs1
  have bT1 : Boxed ((w.alloc (Obj.cells #[.slice A0_0 12 c0_0] 24)).alloc (Obj.cells #[.slice none 0 0] 24)) w.heap.size 24 (.slice A0_0 12 c0_0) := (Boxed.new w 24 _).alloc _
  have bR1 : Boxed ((w.alloc (Obj.cells #[.slice A0_0 12 c0_0] 24)).alloc (Obj.cells #[.slice none 0 0] 24)) (w.heap.size + 1) 24 (.slice none 0 0) := by
   have := Boxed.new (w.alloc (Obj.cells #[.slice A0_0 12 c0_0] 24)) 24 (.slice none 0 0)
   rwa [World.size_alloc] at this
  have hb1 : Below w.heap.size w ((w.alloc (Obj.cells #[.slice A0_0 12 c0_0] 24)).alloc (Obj.cells #[.slice none 0 0] 24)) := ((Below.refl _ w).alloc (Nat.le_refl _) _).alloc (by simp) _
  go_loopw [3] (fun p wr => ∃ (kq : Nat) (i : Int), p = .int .i64 i ∧ 0 ≤ i ∧ i ≤ (12 : Int) ∧ Boxed wr w.heap.size 24 (.slice A0_0 12 c0_0) ∧ Boxed wr (w.heap.size + 1) 24 (.slice none 0 0) ∧ Below w.heap.size w wr ∧ Aside0 (plinthlaw25_cut.l0 kq (l0_0.take 12) i = some r))
   (fun p wr => 12 - (intOf p).toNat)
  case atStart => exact ⟨k, 0, rfl, by omega, by omega, bT1, bR1, hb1, ⟨h⟩⟩
  case round =>
   clear h bT1 bR1 hb1
   obtain ⟨kq, i, rfl, hi0, hi1, bT, bR, hb, hL⟩ := hrel
   have hct := bT.cell
   have hft := bT.frozen
   have hcr := bR.cell
   have hfr := bR.frozen
   cases kq with
   | zero => exact absurd hL.out (by simp [plinthlaw25_cut.l0])
   | succ kq =>
    have H := hL.out
    rw [plinthlaw25_cut.l0] at H
    by_cases hi : i < ((l0_0.take 12).length : Int)
    ·rw [if_pos hi] at H
     have hib : decide (i < (12 : Int)) = true := decide_eq_true (by omega)
     have hi' : i < (12 : Int) := by omega
     obtain ⟨ad, Ax, cx, rfl, hx⟩ := plinthlaw25_cut.at_ (Kd.C_below hCL hb) i hi0 (by omega)
     by_cases hq : 4097 < ((plinthlaw25_cut.rd (l0_0.take 12) i).length : Int)
     ·rw [if_pos hq] at H
      obtain rfl := Option.some.inj H
      have hqb : decide (4097 < ((plinthlaw25_cut.rd (l0_0.take 12) i).length : Int)) = true := decide_eq_true hq
      clear H
      go_wp2
      exact bodyPost_ret (results_single rfl (.cell (w.heap.size + 1) 24 _ _ _ rfl (bR.set (.slice none 0 0)) hu24 rfl (by kernel_rfl) .nil)) rfl ⟨_, rfl, plinthlaw25_cut.nil _ _ _, hb.setCell (p := ⟨w.heap.size + 1, 0, none⟩) (by simp) _⟩
     ·rw [if_neg hq] at H
      have hqb : decide (4097 < ((plinthlaw25_cut.rd (l0_0.take 12) i).length : Int)) = false := decide_eq_false hq
      go_wp2
      go_roundw
      case rel => exact ⟨kq, i + 1, rfl, by omega, by omega, bT, bR, hb, ⟨H⟩⟩
      case measure =>
       simp only [intOf]
       omega
    ·rw [if_neg hi] at H
     obtain rfl := Option.some.inj H
     have hib : decide (i < (12 : Int)) = false := decide_eq_false (by omega)
     clear H
     go_wp2
     exact bodyPost_ret (results_single rfl (.cell (w.heap.size + 1) 24 _ _ _ rfl (bR.set _) hu24 rfl (by kernel_rfl) .nil)) rfl ⟨_, rfl, by have := plinthlaw25_cut.share (W := wr.setCell { block := w.heap.size + 1, off := 0 } (.slice _ _ _)) (hb.setCell (p := ⟨w.heap.size + 1, 0, none⟩) (by simp) (.slice A0_0 12 c0_0)) hs1; rw [e12] at this; exact this, hb.setCell (p := ⟨w.heap.size + 1, 0, none⟩) (by simp) _⟩
 ·rw [if_neg c1] at h hl1
  have c1b : decide (12 < (l0_0.length : Int)) = false := decide_eq_false (by omega)
  go_wp2
  have hs1 := hs0_0
  obtain ⟨hcL, hCL⟩ := plinthlaw25_cut.reads (W := w) hs1
  have bT1 : Boxed ((w.alloc (Obj.cells #[.slice A0_0 l0_0.length c0_0] 24)).alloc (Obj.cells #[.slice none 0 0] 24)) w.heap.size 24 (.slice A0_0 l0_0.length c0_0) := (Boxed.new w 24 _).alloc _
  have bR1 : Boxed ((w.alloc (Obj.cells #[.slice A0_0 l0_0.length c0_0] 24)).alloc (Obj.cells #[.slice none 0 0] 24)) (w.heap.size + 1) 24 (.slice none 0 0) := by
   have := Boxed.new (w.alloc (Obj.cells #[.slice A0_0 l0_0.length c0_0] 24)) 24 (.slice none 0 0)
   rwa [World.size_alloc] at this
  have hb1 : Below w.heap.size w ((w.alloc (Obj.cells #[.slice A0_0 l0_0.length c0_0] 24)).alloc (Obj.cells #[.slice none 0 0] 24)) := ((Below.refl _ w).alloc (Nat.le_refl _) _).alloc (by simp) _
  go_loopw [3] (fun p wr => ∃ (kq : Nat) (i : Int), p = .int .i64 i ∧ 0 ≤ i ∧ i ≤ (l0_0.length : Int) ∧ Boxed wr w.heap.size 24 (.slice A0_0 l0_0.length c0_0) ∧ Boxed wr (w.heap.size + 1) 24 (.slice none 0 0) ∧ Below w.heap.size w wr ∧ Aside0 (plinthlaw25_cut.l0 kq l0_0 i = some r))
   (fun p wr => l0_0.length - (intOf p).toNat)
  case atStart => exact ⟨k, 0, rfl, by omega, by omega, bT1, bR1, hb1, ⟨h⟩⟩
  case round =>
   clear h bT1 bR1 hb1
   obtain ⟨kq, i, rfl, hi0, hi1, bT, bR, hb, hL⟩ := hrel
   have hct := bT.cell
   have hft := bT.frozen
   have hcr := bR.cell
   have hfr := bR.frozen
   cases kq with
   | zero => exact absurd hL.out (by simp [plinthlaw25_cut.l0])
   | succ kq =>
    have H := hL.out
    rw [plinthlaw25_cut.l0] at H
    by_cases hi : i < (l0_0.length : Int)
    ·rw [if_pos hi] at H
     have hib : decide (i < (l0_0.length : Int)) = true := decide_eq_true (by omega)
     have hi' : i < (l0_0.length : Int) := by omega
     obtain ⟨ad, Ax, cx, rfl, hx⟩ := plinthlaw25_cut.at_ (Kd.C_below hCL hb) i hi0 (by omega)
     by_cases hq : 4097 < ((plinthlaw25_cut.rd l0_0 i).length : Int)
     ·rw [if_pos hq] at H
      obtain rfl := Option.some.inj H
      have hqb : decide (4097 < ((plinthlaw25_cut.rd l0_0 i).length : Int)) = true := decide_eq_true hq
      clear H
      go_wp2
      exact bodyPost_ret (results_single rfl (.cell (w.heap.size + 1) 24 _ _ _ rfl (bR.set (.slice none 0 0)) hu24 rfl (by kernel_rfl) .nil)) rfl ⟨_, rfl, plinthlaw25_cut.nil _ _ _, hb.setCell (p := ⟨w.heap.size + 1, 0, none⟩) (by simp) _⟩
     ·rw [if_neg hq] at H
      have hqb : decide (4097 < ((plinthlaw25_cut.rd l0_0 i).length : Int)) = false := decide_eq_false hq
      go_wp2
      go_roundw
      case rel => exact ⟨kq, i + 1, rfl, by omega, by omega, bT, bR, hb, ⟨H⟩⟩
      case measure =>
       simp only [intOf]
       omega
    ·rw [if_neg hi] at H
     obtain rfl := Option.some.inj H
     have hib : decide (i < (l0_0.length : Int)) = false := decide_eq_false (by omega)
     clear H
     go_wp2
     exact bodyPost_ret (results_single rfl (.cell (w.heap.size + 1) 24 _ _ _ rfl (bR.set _) hu24 rfl (by kernel_rfl) .nil)) rfl ⟨_, rfl, by have := plinthlaw25_cut.share (W := wr.setCell { block := w.heap.size + 1, off := 0 } (.slice _ _ _)) (hb.setCell (p := ⟨w.heap.size + 1, 0, none⟩) (by simp) (.slice A0_0 l0_0.length c0_0)) hs1; exact this, hb.setCell (p := ⟨w.heap.size + 1, 0, none⟩) (by simp) _⟩

end Go.Proofs.Ytbmmddngadnofaa.F
