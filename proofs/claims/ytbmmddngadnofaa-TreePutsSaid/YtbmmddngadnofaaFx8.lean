-- Written by ext (this session's own program).
-- in short rows (short.py)
import Derived.Test.YtbmmddngadnofaaFx0
import Derived.Test.YtbmmddngadnofaaFx2
import Derived.Test.YtbmmddngadnofaaFx7
import Derived.RangeFuncNested
import Derived.RangeFuncBox
import Derived.Shelf.Abstract
import Derived.OwnWalkIn
import Derived.TacticsInMore
import Derived.LoopNIn
import Derived.LoopIn
import Derived.Maps.AppendAt
namespace Go.Proofs.Ytbmmddngadnofaa.F
open Go.RowKit Go.Proofs.YtbmmddngadnofaaW.PrintWords Go.Proofs.YtbmmddngadnofaaW.PrintLast Go.Proofs.YtbmmddngadnofaaW.PrintMore
attribute [local go_sem] max2_int min2_int max_two min_two max_three min_three max_four min_four   -- for this text's walks alone
set_option linter.unusedVariables false
set_option linter.unusedSimpArgs false

/-! ### tree_Make: function 21 -/
open Go.Shelf
attribute [local go_sem] Oper.semAt_some
/-- Blocks of digests lie as they lay. -/
def tree_Make.Fix (n : Nat) (W W' : World) : Prop := ∀ (k : Nat) (cs : Array Value) (fr : Nat × Nat), n ≤ k → W.heap[k]? = some (Obj.cells cs 25 fr) → W'.heap[k]? = W.heap[k]?
theorem tree_Make.Fix.refl (n : Nat) (W : World) : tree_Make.Fix n W W := fun _ _ _ _ _ => rfl
theorem tree_Make.Fix.trans {n : Nat} {A B C : World} (h : tree_Make.Fix n A B) (k : tree_Make.Fix n B C) : tree_Make.Fix n A C :=
 fun i cs fr hn hi => (k i cs fr hn ((h i cs fr hn hi).trans hi)).trans (h i cs fr hn hi)
theorem tree_Make.Fix.below {n : Nat} {A B : World} (h : Below A.heap.size A B) : tree_Make.Fix n A B := fun i cs fr _ hi => h.block i (Array.getElem?_eq_some_iff.1 hi).1
theorem tree_Make.Fix.far {n : Nat} {W W' : World} {g : Nat} {o : Obj} (h : W.heap[g]? = some o) (ho : ∀ cs fr, o ≠ Obj.cells cs 25 fr) (hw : ∀ k, k ≠ g → k < W.heap.size → W'.heap[k]? = W.heap[k]?) : tree_Make.Fix n W W' := by
 intro k cs fr _ hk
 refine hw k (fun e => ?_) (Array.getElem?_eq_some_iff.1 hk).1
 subst e
 rw [h] at hk
 exact ho cs fr (Option.some.inj hk)
theorem tree_Make.Fix.box {n : Nat} {W : World} {g t : Nat} {v u : Value} (h : Boxed W g t v) (ht : t ≠ 25) : tree_Make.Fix n W (W.setCell ⟨g, 0, none⟩ u) :=
 tree_Make.Fix.far (show W.heap[g]? = some (.cells #[v] t (0, 0)) from h) (fun _ _ e => ht (Obj.cells.inj e).2.1) (fun k hk _ => heap_setCell_other W ⟨g, 0, none⟩ k u hk)
theorem tree_Make.Fix.row {n : Nat} {W W' : World} {b sz k : Nat} {v : Value} {xs : List Value} (hr : W.ownsRow b 40 sz v k xs) (hg : W.grownBy W' v.ownBlock) : tree_Make.Fix n W W' := by
 intro i cs fr _ hi
 refine hg.block i (Array.getElem?_eq_some_iff.1 hi).1 (fun e => ?_)
 rcases hr.2 with ⟨rfl, _⟩ | ⟨g, cap, cur, rfl, _, hgb, _⟩
 ·simp [Value.ownBlock] at e
 ·obtain rfl : i = g := by simpa [Value.ownBlock] using e
  rw [hgb] at hi
  exact absurd (Obj.cells.inj (Option.some.inj hi)).2.1 (by decide)
/-- A slice of digests that reads as it does as long as blocks of digests lie. -/
def tree_Make.Good (n : Nat) (W : World) (v : Value) (l : List Int) : Prop := ∃ A c, v = .slice A l.length c ∧ l.length ≤ c ∧ ∀ W', tree_Make.Fix n W W' → (Kd.int .u32).C W' A l.length l
theorem tree_Make.Good.fix {n : Nat} {W W1 : World} {v : Value} {l : List Int} (h : tree_Make.Good n W v l) (hf : tree_Make.Fix n W W1) : tree_Make.Good n W1 v l := by
 obtain ⟨A, c, rfl, hc, hr⟩ := h
 exact ⟨A, c, rfl, hc, fun W' h' => hr W' (hf.trans h')⟩
theorem tree_Make.Good.of_R {n : Nat} {W : World} {b : Nat} {ok : Nat → Prop} {v : Value} {l : List Int} (hn : n ≤ b) (h : Kd.R (Kd.int .u32) 25 W b ok v l) : tree_Make.Good n W v l := by
 obtain ⟨A, c, rfl, hc, _⟩ := Kd.R_reads h
 refine ⟨A, c, rfl, hc, fun W' hW => ?_⟩
 obtain ⟨h0, inner, ho, hr⟩ := h
 have ho' : W'.ownsRow b 25 1 (.slice A l.length c) l.length inner := by
  refine ⟨ho.1, ho.2.imp id ?_⟩
  rintro ⟨g, cap, cur, h1, h2, h3, rest⟩
  exact ⟨g, cap, cur, h1, h2, (hW g _ _ (Nat.le_trans hn h2) h3).trans h3, rest⟩
 have : Kd.R (Kd.int .u32) 25 W' b ok (.slice A l.length c) l := ⟨h0, inner, ho', hr⟩
 exact (Kd.R_reads' this).2.2
def tree_Make.El (n : Nat) (W : World) (x : List Int) (cs : List Value) : Prop := ∃ v, cs = [v] ∧ tree_Make.Good n W v x
structure tree_Make.Inv (w : World) (b xb : Nat) (acc : List (List Int)) (W : World) : Prop where
 res : Boxed W b 24 (.slice none 0 0)
 row : ∃ v inner, Boxed W xb 24 v ∧ W.ownsRow w.heap.size 40 1 v acc.length inner ∧ Reps (tree_Make.El w.heap.size W) 1 acc inner
 below : Below w.heap.size w W
theorem tree_Make.info_ : (Try.prog.info? 40).map (fun i => (i.zero, i.size, i.bytes)) = some (some (.slice none 0 0), 1, 24) := by kernel_rfl
theorem tree_Make.read {W : World} {b : Nat} {v : Value} {xs : List (List Int)} {inner : List Value} (hr : W.ownsRow b 40 1 v xs.length inner) (he : Reps (tree_Make.El b W) 1 xs inner) : Kd.V (Kd.slice 25 (Kd.int .u32)) 40 W b (fun k_ => b ≤ k_) v xs := by
 have hV : ∀ W' : World, (∀ k : Nat, b ≤ k → k < W.heap.size → W'.heap[k]? = W.heap[k]?) → ∃ A c, v = .slice A xs.length c ∧ (Kd.slice 25 (Kd.int .u32)).C W' A xs.length xs := by
  intro W' hW
  have hF : tree_Make.Fix b W W' := fun k cs fr hn hk => hW k hn (Array.getElem?_eq_some_iff.1 hk).1
  have hr' : W'.ownsRow b 40 1 v xs.length inner := by
   refine ⟨hr.1, hr.2.imp id ?_⟩
   rintro ⟨g, cap, cur, h1, h2, h3, rest⟩
   exact ⟨g, cap, cur, h1, h2, (hW g h2 (Array.getElem?_eq_some_iff.1 h3).1).trans h3, rest⟩
  have he' : Reps ((Kd.slice 25 (Kd.int .u32)).K W') 1 xs inner := he.imp_ (fun x cs hx => by obtain ⟨u, rfl, A, c, rfl, hc, hu⟩ := hx; exact ⟨A, c, rfl, hc, hu W' hF⟩)
  exact own_reads_row hr' he' rfl
 obtain ⟨A, c, hv, _⟩ := hV W (fun _ _ _ => rfl)
 subst hv
 have hle := own_le hr
 refine ⟨A, c, rfl, hle, fun W' hW => ?_⟩
 obtain ⟨A', c', e, hC⟩ := hV W' hW
 obtain ⟨rfl, _, _⟩ := Value.slice.inj e
 exact hC
def tree_Make.l0 : Nat → List (List Int) → List Int → Option (List (List Int))
 | 0, _, _ => none
 | k + 1, acc, l => if 1 < l.length then (if acc.length < 1000 then (tree_above.f k l).bind fun up => (if up.length < l.length then tree_Make.l0 k (acc ++ [up]) up else none) else none) else some acc
def tree_Make.f (k : Nat) (l0 : List Int) : Option (List (List Int) × Int) := if l0.length < 1 then some ([], 250) else if 4096 < l0.length then some ([], 250) else (slices_Clone_uint32_uint32.f l0).bind fun c => (tree_Make.l0 k [c] l0).bind fun r => some (r, 0)
theorem tree_Make.mono_l : ∀ k, (∀ y0 y1, LeO (tree_Make.l0 k y0 y1) (tree_Make.l0 (k + 1) y0 y1))
 | 0 => fun _ _ r h => by simp [tree_Make.l0] at h
 | k + 1 => by
  have ih0 := tree_Make.mono_l k
  intro y0 y1
  unfold tree_Make.l0
  repeat' first
   | (with_reducible exact ih0 _ _)
   | (with_reducible exact tree_above.mono _ _)
   | (with_reducible exact LeO.refl _)
   | (with_reducible exact LeO.none _)
   | (with_reducible refine LeO.ite ?_ ?_)
   | (with_reducible refine LeO.bind ?_ (fun _ => ?_))
theorem tree_Make.mono : ∀ a0 k, LeO (tree_Make.f k a0) (tree_Make.f (k + 1) a0) := by
 intro a0 k
 have ih0 := tree_Make.mono_l k
 unfold tree_Make.f
 repeat' first
  | (with_reducible exact ih0 _ _)
  | (with_reducible exact LeO.refl _)
  | (with_reducible exact LeO.none _)
  | (with_reducible refine LeO.ite ?_ ?_)
  | (with_reducible refine LeO.bind ?_ (fun _ => ?_))
set_option maxHeartbeats 4000000 in
set_option maxRecDepth 100000 in
theorem tree_Make.calls (k : Nat) (A0 : Option Addr) (c0 : Nat) (l0 : List Int) (r1 : List (List Int)) (r2 : Int) (w : World) (hr0 : Kd.C (Kd.int .u32) w A0 l0.length l0) (hc0 : l0.length ≤ c0) (h : tree_Make.f k l0 = some (r1, r2)) :
  Calls Try.prog 21 #[.slice A0 l0.length c0] w fun e w' => ∃ v0_ : Value, e = .returned (.tuple #[.agg #[v0_], .int .i64 r2]) ∧ Kd.V (Kd.slice 25 (Kd.int .u32)) 40 w' w.heap.size (fun k_ => w.heap.size ≤ k_) v0_ r1 ∧ Below w.heap.size w w' := by
 have hu24 := Try.underlying24
 unfold tree_Make.f at h
 by_cases h1 : l0.length < 1
 ·rw [if_pos h1] at h
  obtain ⟨rfl, rfl⟩ := Prod.mk.inj (Option.some.inj h)
  go_enter Try.func21, Try.ntmps21
  go_wp2
  exact bodyPost_ret (results_ct rfl _ _ w.heap.size 24 _ _ _ rfl (World.alloc_heap_new w _) hu24 rfl (by kernel_rfl)) rfl ⟨_, rfl, tree_Make.read (World.ownsRow_nil _ _ _ _) (Reps.none _ _), (Below.refl _ w).alloc (Nat.le_refl _) _⟩
 ·rw [if_neg h1] at h
  have h1i : ¬ ((l0.length : Int) < 1) := by omega
  by_cases h2 : 4096 < l0.length
  ·rw [if_pos h2] at h
   obtain ⟨rfl, rfl⟩ := Prod.mk.inj (Option.some.inj h)
   go_enter Try.func21, Try.ntmps21
   have h1b : decide ((l0.length : Int) < 1) = false := decide_eq_false (by omega)
   have h2b : decide (4096 < (l0.length : Int)) = true := decide_eq_true (by omega)
   go_wp2
   exact bodyPost_ret (results_ct rfl _ _ w.heap.size 24 _ _ _ rfl (World.alloc_heap_new w _) hu24 rfl (by kernel_rfl)) rfl ⟨_, rfl, tree_Make.read (World.ownsRow_nil _ _ _ _) (Reps.none _ _), (Below.refl _ w).alloc (Nat.le_refl _) _⟩
  ·rw [if_neg h2] at h
   obtain ⟨cl, hcl, h⟩ := Option.bind_eq_some_iff.mp h
   obtain ⟨rs, hrs, h⟩ := Option.bind_eq_some_iff.mp h
   obtain ⟨rfl, rfl⟩ := Prod.mk.inj (Option.some.inj h)
   have h1b : decide ((l0.length : Int) < 1) = false := decide_eq_false (by omega)
   have h2b : decide (4096 < (l0.length : Int)) = false := decide_eq_false (by omega)
   have hrw := Kd.C_below hr0 ((Below.refl _ w).alloc (Nat.le_refl _) (Obj.cells #[Value.slice none 0 0] 24))
   refine (callsIn_wide (n := 5)).1 ?_
   refine callsIn_of_wp Try.func21 rfl trivial ?_ rfl
   simp only [Try.ntmps21, List.size_toArray, List.length_cons, List.length_nil, Nat.reduceAdd, Nat.reduceSub, Array.replicate_succ, Array.replicate_zero, List.push_toArray, List.append_toArray, List.nil_append, List.cons_append]
   have hn5 : 1 ≤ 5 := by decide
   clear h h1 h2
   gi_wp2_with (refine ⟨trivial, ?_⟩; gi_at_call 44; refine (callsIn_wide.2 (slices_Clone_uint32_uint32.calls A0 c0 l0 cl _ hrw hc0 hcl)).mono ?_; rintro e w1 ⟨v1, rfl, ho1, hb1⟩; obtain ⟨A1, c1, hv1⟩ := Kd.R_slice ho1; subst hv1)
   have hs1 := hb1.size
   obtain ⟨W1, hW1⟩ : ∃ W1, ((w1.alloc (Obj.cells #[Value.slice A1 cl.length c1] 40)).alloc (Obj.cells #[Value.slice (some { block := w1.heap.size, off := 0 }) 1 1] 24)) = W1 := ⟨_, rfl⟩
   have hb2 : Below w.heap.size w W1 := by
    rw [← hW1]
    exact (((((Below.refl _ w).alloc (Nat.le_refl _) _).trans (hb1.mono (by simp))).alloc (by simp at hs1; omega) _).alloc (by simp at hs1 ⊢; omega) _)
   have hg1 := tree_Make.Good.of_R (n := w.heap.size) (by simp) ho1
   have hf1 : tree_Make.Fix w.heap.size w1 W1 := by
    rw [← hW1]
    exact (tree_Make.Fix.below ((Below.refl _ w1).alloc (Nat.le_refl _) _)).trans (tree_Make.Fix.below ((Below.refl _ (w1.alloc _)).alloc (Nat.le_refl _) _))
   have hI : tree_Make.Inv w w.heap.size (w1.heap.size + 1) [cl] W1 := by
    refine ⟨?_, ?_, hb2⟩
    ·rw [← hW1]
     exact (((Boxed.new w 24 _).kept (tree_above.grown hb1) (by simp)).alloc _).alloc _
    ·have hl : OwnRow (tree_Make.El w.heap.size W1) 40 1 (w1.alloc (.cells [Value.slice A1 cl.length c1].toArray 40)) w.heap.size (.slice (some ⟨w1.heap.size, 0, none⟩) [cl].length [cl].length) [cl] :=
      OwnRow.lit w1 w.heap.size ((Reps.none _ _).snoc (c := [Value.slice A1 cl.length c1]) (p := cl) ⟨_, rfl, hg1.fix hf1⟩ rfl) (by simp at hs1; omega) (by simp)
     obtain ⟨inner, hro, hre⟩ := hl
     refine ⟨.slice (some { block := w1.heap.size, off := 0 }) 1 1, inner, ?_, ?_, hre⟩
     ·rw [← hW1]
      have := Boxed.new (w1.alloc (Obj.cells #[Value.slice A1 cl.length c1] 40)) 24 (.slice (some { block := w1.heap.size, off := 0 }) 1 1)
      rwa [World.size_alloc] at this
     ·rw [← hW1]
      exact hro.alloc _
   have hne : w.heap.size ≠ w1.heap.size + 1 := by simp at hs1; omega
   have hxb : w.heap.size ≤ w1.heap.size + 1 := by simp at hs1; omega
   rw [hW1]
   generalize w1.heap.size + 1 = xb at hI hne hxb ⊢
   clear ho1 hb1 hs1 hg1 hf1 hb2 hW1 hrw
   gi_loopw [0] (fun p wr => ∃ (kq : Nat) (acc : List (List Int)) (A : Option Addr) (l : List Int) (c : Nat), p = .slice A l.length c ∧ l.length ≤ c ∧ Kd.C (Kd.int .u32) wr A l.length l ∧ tree_Make.Inv w w.heap.size xb acc wr ∧ Aside0 (tree_Make.l0 kq acc l = some rs))
    (fun p wr => match p with | .slice _ n _ => n | _ => 0)
   case atStart => exact ⟨k, [cl], A0, l0, c0, rfl, hc0, Kd.C_below hr0 hI.below, hI, ⟨hrs⟩⟩
   case round =>
    obtain ⟨kq, acc, A, l, c, rfl, hlc, hC, hJ, hL⟩ := hrel
    cases kq with
    | zero => exact absurd hL.out (by simp [tree_Make.l0])
    | succ kq =>
     have H := hL.out
     rw [tree_Make.l0] at H
     by_cases h1 : 1 < l.length
     ·rw [if_pos h1] at H
      have h1c : decide (1 < (l.length : Int)) = true := decide_eq_true (by omega)
      by_cases hlen : acc.length < 1000
      ·rw [if_pos hlen] at H
       obtain ⟨up, hup, H⟩ := Option.bind_eq_some_iff.mp H
       by_cases hul : up.length < l.length
       ·rw [if_pos hul] at H
        obtain ⟨hres, ⟨v, inner, hv, hrow, hreps⟩, hb⟩ := hJ
        obtain ⟨Av, cv, rfl, _⟩ := own_reads_row hrow hreps rfl
        obtain ⟨i0, hi, hz0, hz1, hz2⟩ := info_parts tree_Make.info_
        gi_wp2_with (first | (refine ⟨trivial, ?_⟩; gi_at_call 47; refine (callsIn_wide.2 (tree_above.calls kq A c l up _ hC hlc hup)).mono ?_; rintro e w2 ⟨v2, rfl, ho2, hb2⟩; obtain ⟨A2, c2, hv2⟩ := Kd.R_slice ho2; subst hv2; have hg2 := tree_above.grown hb2; have hres2 := hres.kept hg2 (by simp); have hvv2 := hv.kept hg2 (by simp); have hrow2 := hrow.kept hg2 (tree_above.orNone _); have hcv2 := hvv2.cell; have hfv2 := hvv2.frozen; have hsz2 := hb2.size; have hsz := hb.size) | (gi_at_builtin; refine wpListIn_append_own _ rfl _ _ 22 rfl w.heap.size 40 i0 _ 1 24 Try.underlying22 hi hz0 hz1 hz2 rfl (by decide) _ _ _ rfl (hrow2.alloc _) ⟨w2.heap.size, 0, none⟩ 1 1 [Value.slice A2 up.length c2] rfl rfl (cell_one_new _ _ _) (by simp [Value.oneCell']) (by simp only [maxLen]; omega) (by omega) (by simp; omega) ?_; intro v' w3 hown' hgrow _; obtain ⟨g', cap', rfl⟩ := ownsRow_succ hown'; obtain ⟨hv3, hv4, hr4, hk4, hb4⟩ := hvv2.appended (by decide) hrow2 (Nat.le_trans hsz hsz2) hxb hown' hgrow; have hcv3 := hv3.cell; have hfv3 := hv3.frozen))
        have hf3 : tree_Make.Fix w.heap.size w2 w3 := (tree_Make.Fix.below ((Below.refl _ w2).alloc (Nat.le_refl _) _)).trans (tree_Make.Fix.row (hrow2.alloc (Obj.cells #[Value.slice A2 up.length c2] 40)) hgrow)
        have hf4 := hf3.trans (tree_Make.Fix.box (u := Value.slice (some { block := g', off := 0 }) (acc.length + 1) cap') hv3 (by decide))
        have hg4 := (tree_Make.Good.of_R hsz ho2).fix hf4
        have hfw := (tree_Make.Fix.below hb2).trans hf4
        have hres4 := ((hres2.alloc (Obj.cells #[Value.slice A2 up.length c2] 40)).kept hgrow ((hres2.alloc (Obj.cells #[Value.slice A2 up.length c2] 40)).not_row (by decide) (hrow2.alloc (Obj.cells #[Value.slice A2 up.length c2] 40)))).other hne (Value.slice (some { block := g', off := 0 }) (acc.length + 1) cap')
        have hb5 := (hb.trans (hb2.mono hsz)).trans hb4
        obtain ⟨W4, hW4⟩ : ∃ W4, w3.setCell { block := xb, off := 0 } (Value.slice (some { block := g', off := 0 }) (acc.length + 1) cap') = W4 := ⟨_, rfl⟩
        rw [hW4] at hf4 hg4 hfw hres4 hb5 hv4 hr4 ⊢
        obtain ⟨Ag, cg, eg, hcg, hrg⟩ := id hg4
        obtain ⟨rfl, _, rfl⟩ := Value.slice.inj eg
        go_roundw
        case rel => exact ⟨kq, acc ++ [up], _, up, _, rfl, hcg, hrg W4 (tree_Make.Fix.refl _ _), ⟨hres4, ⟨_, _, hv4, by rw [List.length_append]; exact hr4, (hreps.imp_ (fun x cs hx => by obtain ⟨u, rfl, hu⟩ := hx; exact ⟨u, rfl, hu.fix hfw⟩)).snoc ⟨_, rfl, hg4⟩ rfl⟩, hb5⟩, ⟨H⟩⟩
        case measure => exact hul
       ·rw [if_neg hul] at H
        exact absurd H (by simp)
      ·rw [if_neg hlen] at H
       exact absurd H (by simp)
     ·rw [if_neg h1] at H
      obtain rfl := Option.some.inj H
      have h1c : decide (1 < (l.length : Int)) = false := decide_eq_false (by omega)
      obtain ⟨hres, ⟨v, inner, hv, hrow, hreps⟩, hb⟩ := hJ
      obtain ⟨Av, cv, rfl, _⟩ := own_reads_row hrow hreps rfl
      have hcv := hv.cell
      have hfv := hv.frozen
      have hcr := hres.cell
      have hfr := hres.frozen
      gi_wp2
      refine bodyPost_ret (results_ct rfl _ _ w.heap.size 24 _ _ _ rfl (hres.set _) hu24 rfl (by kernel_rfl)) rfl ?_
      have hrow5 := hrow.kept (grownBy_setCell' wr w.heap.size (Value.slice Av acc.length cv)) (.inr (hres.not_row (by decide) hrow).symm)
      have hf5 : tree_Make.Fix w.heap.size wr (wr.setCell { block := w.heap.size, off := 0 } (Value.slice Av acc.length cv)) := tree_Make.Fix.box hres (by decide)
      exact ⟨_, rfl, tree_Make.read hrow5 (hreps.imp_ (fun x cs hx => by obtain ⟨u, rfl, hu⟩ := hx; exact ⟨u, rfl, hu.fix hf5⟩)), hb.setCell (p := ⟨w.heap.size, 0, none⟩) (Nat.le_refl _) _⟩

end Go.Proofs.Ytbmmddngadnofaa.F
