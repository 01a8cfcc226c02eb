-- Written by ext (this session's own program).
-- in short rows (short.py)
import Derived.Test.YtbmmddngadnofaaFx0
import Derived.Test.YtbmmddngadnofaaFx2
import Derived.Test.YtbmmddngadnofaaFx6
import Derived.Test.YtbmmddngadnofaaFx7
import Derived.Test.YtbmmddngadnofaaFx8
import Derived.Test.YtbmmddngadnofaaFx11
import Derived.RangeFuncNested
import Derived.RangeFuncBox
import Derived.Shelf.Abstract
import Derived.OwnWalkIn
import Derived.TacticsInMore
import Derived.LoopNIn
import Derived.LoopIn
import Derived.Maps.AppendAt
namespace Go.Proofs.Ytbmmddngadnofaa.F
open Go.RowKit Go.Proofs.YtbmmddngadnofaaW.PrintWords Go.Proofs.YtbmmddngadnofaaW.PrintLast Go.Proofs.YtbmmddngadnofaaW.PrintMore
attribute [local go_sem] max2_int min2_int max_two min_two max_three min_three max_four min_four   -- for this text's walks alone
set_option linter.unusedVariables false
set_option linter.unusedSimpArgs false

/-! ### tree_Put: function 30 -/
open Go.Shelf
def tree_Put.l0 : Nat → List (List Int) → Int → Int → Int → List (List Int) → Option (List (List Int))
 | 0, _, _, _, _, _ => none
 | k + 1, t, n, i, d, acc => if n < (t.length : Int) then (if 0 ≤ i then (if i < ((rd_L1 t n).length : Int) then (if acc.length < 1000 then ((slices_Clone_uint32_uint32.f (rd_L1 t n)).bind fun cl => if cl.length = (rd_L1 t n).length then ((tree_row.f (cl.set i.toNat d) i).bind fun rr => (tree_Row.f k rr.1).bind fun d' => tree_Put.l0 k t (n + 1) (i / 4) d' (acc ++ [cl.set i.toNat d])) else none) else none) else none) else none) else some acc
def tree_Put.f (k : Nat) (t : List (List Int)) (i d : Int) : Option (List (List Int) × Int) := (tree_at.f k t i).bind fun e => if e = 0 then ((tree_Put.l0 k t 0 i d []).bind fun r => some (r, 0)) else some ([], e)
theorem tree_Put.mono_l : ∀ k, (∀ y0 y1 y2 y3 y4, LeO (tree_Put.l0 k y0 y1 y2 y3 y4) (tree_Put.l0 (k + 1) y0 y1 y2 y3 y4))
 | 0 => fun _ _ _ _ _ r h => by simp [tree_Put.l0] at h
 | k + 1 => by
  have ih0 := tree_Put.mono_l k
  intro y0 y1 y2 y3 y4
  unfold tree_Put.l0
  repeat' first
   | (with_reducible exact ih0 _ _ _ _ _)
   | (with_reducible exact tree_Row.mono _ _)
   | (with_reducible exact LeO.refl _)
   | (with_reducible exact LeO.none _)
   | (with_reducible refine LeO.ite ?_ ?_)
   | (with_reducible refine LeO.bind ?_ (fun _ => ?_))
theorem tree_Put.mono : ∀ a0 a1 a2 k, LeO (tree_Put.f k a0 a1 a2) (tree_Put.f (k + 1) a0 a1 a2) := by
 intro a0 a1 a2 k
 have ih0 := tree_Put.mono_l k
 unfold tree_Put.f
 repeat' first
  | (with_reducible exact ih0 _ _ _ _ _)
  | (with_reducible exact tree_at.mono _ _ _)
  | (with_reducible exact LeO.refl _)
  | (with_reducible exact LeO.none _)
  | (with_reducible refine LeO.ite ?_ ?_)
  | (with_reducible refine LeO.bind ?_ (fun _ => ?_))
theorem tree_Put.own {W : World} {base : Nat} {ok : Nat → Prop} {v : Value} {l : List Int} (h : Kd.R (Kd.int .u32) 25 W base ok v l) (hl : 0 < l.length) : ∃ g c, v = .slice (some ⟨g, 0, none⟩) l.length c := by
 obtain ⟨_, inner, ho, _⟩ := h
 rcases ho.2 with ⟨_, h0⟩ | ⟨g, c, cur, hh, _⟩
 ·omega
 ·exact ⟨g, c, hh⟩
theorem tree_Put.store {wr W : World} {l : List Int} {g c : Nat} {ok : Nat → Prop} (h : Kd.R (Kd.int .u32) 25 W wr.heap.size ok (.slice (some ⟨g, 0, none⟩) l.length c) l) (hb : Below wr.heap.size wr W) {i : Int} (h0 : 0 ≤ i) (h1 : i < (l.length : Int)) (d : Int) :
  W.cell? ⟨g, i.toNat, none⟩ = some (.int .u32 (rd l i)) ∧ W.frozen? ⟨g, i.toNat, none⟩ = false ∧ Kd.R (Kd.int .u32) 25 (W.setCell ⟨g, i.toNat, none⟩ (.int .u32 d)) wr.heap.size ok (.slice (some ⟨g, 0, none⟩) l.length c) (l.set i.toNat d) ∧ Below wr.heap.size wr (W.setCell ⟨g, i.toNat, none⟩ (.int .u32 d)) := by
 obtain ⟨_, eg, hcg⟩ := Kd.at_int (Kd.R_reads' h).2.2 i h0 h1
 cases eg
 have hbg : wr.heap.size ≤ g := Kd.R_base h g (by simp [Value.ownBlock])
 have hs := Kd.R_seg (c := [.int .u32 (rd l i)]) (seg := [.int .u32 d]) (j := 0) (x' := d) (okp := fun _ => False) h i h0 h1 rfl (fun j u hj => by
  rcases j with _ | j
  ·obtain rfl : Value.int .u32 (rd l i) = u := by simpa using hj
   show W.cell? ⟨g, i.toNat * 1 + 0, none⟩ = _
   simpa [add_plain] using hcg
  ·simp at hj) (Nat.le_refl 1) rfl (fun _ h => h.elim)
 have e : i.toNat * (Kd.int .u32).sz + 0 = i.toNat := Nat.mul_one _
 rw [e] at hs
 refine ⟨by simpa [add_plain] using hcg, ?_, hs.1, hb.setCell (p := ⟨g, i.toNat, none⟩) hbg _⟩
 obtain ⟨_, inner, ho, _⟩ := h
 rcases ho.2 with ⟨hh, _⟩ | ⟨g', c', cur, hh, _, hgb, _⟩
 ·cases hh
 ·obtain ⟨hh, _, _⟩ := Value.slice.inj hh
  obtain rfl : g = g' := by simpa using hh
  exact blk_frozen hgb _
theorem tree_Put.row {n : Nat} {W : World} {A : Option Addr} {m c : Nat} {l : List Int} {i r2 : Int} {r1 : List Int} (h : tree_Make.Good n W (.slice A m c) l) (hm : m = l.length) (hr : tree_row.f l i = some (r1, r2)) :
  Calls Try.prog 43 #[.slice A m c, .int .i64 i] W fun e w' => ∃ v0_ : Value, e = .returned (.tuple #[v0_, .int .i64 r2]) ∧ Kd.V (Kd.int .u32) 25 w' W.heap.size (fun k_ => (k_ < W.heap.size ∨ W.heap.size ≤ k_)) v0_ r1 ∧ Below W.heap.size W w' := by
 subst hm
 obtain ⟨A', c', e, hc, hC⟩ := h
 obtain ⟨rfl, _, rfl⟩ := Value.slice.inj e
 exact tree_row.calls (fun k_ => k_ < W.heap.size) A c l i r1 r2 W (Kd.V_mk hc (Kd.C_F (Kd.heap_int .u32) (hC W (tree_Make.Fix.refl _ _)))) hr
set_option maxHeartbeats 4000000 in
set_option maxRecDepth 100000 in
theorem tree_Put.calls (k : Nat) (A0_0 : Option Addr) (c0_0 : Nat) (l0_0 : List (List Int)) (a1 a2 : Int) (r1 : List (List Int)) (r2 : Int) (w : World) (hr0 : Kd.C (Kd.slice 25 (Kd.int .u32)) w A0_0 l0_0.length l0_0) (hc0 : l0_0.length ≤ c0_0) (h : tree_Put.f k l0_0 a1 a2 = some (r1, r2)) :
  Calls Try.prog 30 #[.agg #[.slice A0_0 l0_0.length c0_0], .int .i64 a1, .int .u32 a2] w fun e w' => ∃ v0_ : Value, e = .returned (.tuple #[.agg #[v0_], .int .i64 r2]) ∧ Kd.V (Kd.slice 25 (Kd.int .u32)) 40 w' w.heap.size (fun k_ => w.heap.size ≤ k_) v0_ r1 ∧ Below w.heap.size w w' := by
 have hu24 := Try.underlying24
 unfold tree_Put.f at h
 obtain ⟨t0, hat, h⟩ := Option.bind_eq_some_iff.mp h
 go_enter Try.func30, Try.ntmps30
 obtain ⟨W0, hW0⟩ : ∃ W0, ((w.alloc (Obj.cells #[Value.slice A0_0 l0_0.length c0_0] 24)).alloc (Obj.cells #[Value.slice none 0 0] 24)) = W0 := ⟨_, rfl⟩
 have hb0 : Below w.heap.size w W0 := hW0 ▸ ((Below.refl _ w).alloc (Nat.le_refl _) _).alloc (by simp) _
 have bP : Boxed W0 w.heap.size 24 (.slice A0_0 l0_0.length c0_0) := hW0 ▸ (Boxed.new w 24 _).alloc _
 have bR : Boxed W0 (w.heap.size + 1) 24 (.slice none 0 0) := by
  have := Boxed.new (w.alloc (Obj.cells #[.slice A0_0 l0_0.length c0_0] 24)) 24 (.slice none 0 0)
  rw [World.size_alloc] at this
  exact hW0 ▸ this
 have hC0 := Kd.C_below hr0 hb0
 have hcP := bP.cell
 have hcR := bR.cell
 have hfR := bR.frozen
 have hs0 := hb0.size
 have hz : W0.heap.size = w.heap.size + 2 := by rw [← hW0]; simp
 by_cases e0 : t0 = 0
 ·rw [if_pos e0] at h
  have e0b : (t0 != 0) = false := bne_eq_false_iff_eq.mpr e0
  obtain ⟨rs, hrs, h⟩ := Option.bind_eq_some_iff.mp h
  obtain ⟨rfl, rfl⟩ := Prod.mk.inj (Option.some.inj h)
  clear h
  go_wp2_with (first
   | ((with_reducible refine gate_callee (f := 42) rfl ?_); refine goesL_ (some 16) rfl rfl Try.func42 (by kernel_rfl) rfl #[.agg #[.slice A0_0 l0_0.length c0_0], .int .i64 a1] rfl argA ?_; (with_reducible refine (tree_at.calls k _ _ l0_0 a1 t0 _ ?side1 ?side2 hat).mono ?_); (case side1 => exact hC0); (case side2 => exact hc0); rintro e w1 ⟨rfl, hb1⟩; refine ⟨_, rfl, ?_⟩; have bP1 := bP.kept (tree_above.grown hb1) (by simp); have bR1 := bR.kept (tree_above.grown hb1) (by simp); have hbw1 := hb0.trans (hb1.mono hs0); clear hcP hcR hfR hW0; have hcP := (bP1.alloc (Obj.cells #[Value.slice none 0 0] 24)).cell; have hcR := bR1.cell; have hfR := bR1.frozen))
  clear bP bR hb0 hC0
  have hs1 := hbw1.size
  have hsW : w.heap.size + 2 ≤ w1.heap.size := by
   have := hb1.size
   omega
  clear hb1 hz
  have hI0 : tree_Make.Inv w (w.heap.size + 1) w1.heap.size [] (w1.alloc (Obj.cells #[Value.slice none 0 0] 24)) :=
   ⟨bR1.alloc _, ⟨.slice none 0 0, [], Boxed.new w1 24 _, World.ownsRow_nil _ _ _ _, Reps.none _ _⟩, hbw1.alloc hs1 _⟩
  have hne : w.heap.size + 1 ≠ w1.heap.size := by omega
  generalize w1.heap.size = xb at hI0 hne hs1 ⊢
  generalize w1.alloc (Obj.cells #[Value.slice none 0 0] 24) = W1 at hI0 ⊢
  clear bP1 bR1 hbw1 hcP hcR hfR hat hsW
  go_loopw [1, 2, 24] (fun p1 p2 p24 wr => ∃ (kq : Nat) (n i d : Int) (acc : List (List Int)), p1 = .int .i64 i ∧ p2 = .int .u32 d ∧ p24 = .int .i64 n ∧ 0 ≤ n ∧ n ≤ (l0_0.length : Int) ∧ tree_Make.Inv w (w.heap.size + 1) xb acc wr ∧ Aside0 (tree_Put.l0 kq l0_0 n i d acc = some rs))
   (fun p1 p2 p24 wr => l0_0.length - (intOf p24).toNat)
  case atStart => exact ⟨k, 0, a1, a2, [], rfl, rfl, rfl, Int.le_refl _, by omega, hI0, ⟨hrs⟩⟩
  case round =>
   clear hI0 hrs
   obtain ⟨kq, n, i, d, acc, rfl, rfl, rfl, hn0, hn1, ⟨hres, ⟨v, inner, hv, hrow, hreps⟩, hb⟩, hL⟩ := hrel
   obtain ⟨Av, cv, rfl, _⟩ := own_reads_row hrow hreps rfl
   have hcv := hv.cell
   have hfv := hv.frozen
   have hcr := hres.cell
   have hfr := hres.frozen
   have hsz := hb.size
   cases kq with
   | zero => exact absurd hL.out (by simp [tree_Put.l0])
   | succ kq =>
    have H := hL.out
    clear hL
    rw [tree_Put.l0] at H
    by_cases h1 : n < (l0_0.length : Int)
    ·rw [if_pos h1] at H
     have h1b : decide (n < (l0_0.length : Int)) = true := decide_eq_true h1
     obtain ⟨ad, Al, cl', rfl, hx, hlc, hCl⟩ := at_L1 (Kd.C_below hr0 hb) n hn0 h1
     by_cases h2 : 0 ≤ i
     ·rw [if_pos h2] at H
      by_cases h3 : i < ((rd_L1 l0_0 n).length : Int)
      ·rw [if_pos h3] at H
       by_cases h4 : acc.length < 1000
       ·rw [if_pos h4] at H
        obtain ⟨cl, hcl, H⟩ := Option.bind_eq_some_iff.mp H
        by_cases h5 : cl.length = (rd_L1 l0_0 n).length
        ·rw [if_pos h5] at H
         obtain ⟨⟨row, rfrom⟩, hrr, H⟩ := Option.bind_eq_some_iff.mp H
         obtain ⟨d', hd', H⟩ := Option.bind_eq_some_iff.mp H
         have hi5 : i < (cl.length : Int) := by omega
         have hl5 : 0 < cl.length := by omega
         have H5 := Aside0.mk h5
         clear h5
         have h1c : n.toNat < l0_0.length := by omega
         have hq1 : wrap64 (Int.tdiv i 4) = i / 4 := by
          have := hCl.2.1
          rw [Int.tdiv_eq_ediv_of_nonneg h2]; unfold wrap64; omega
         have hnn : wrap64 (n + 1) = n + 1 := by
          have := hr0.2.1
          unfold wrap64; omega
         obtain ⟨i0, hi0, hz0, hz1, hz2⟩ := info_parts tree_Make.info_
         go_wp2_with (first
          | ((with_reducible refine gate_callee (f := 44) rfl ?_); refine goesL_ (some 29) rfl rfl Try.func44 (by kernel_rfl) rfl #[.slice Al (rd_L1 l0_0 n).length cl'] rfl argA ?_; (with_reducible refine (slices_Clone_uint32_uint32.calls Al cl' (rd_L1 l0_0 n) cl _ ?side1 ?side2 hcl).mono ?_); (case side1 => exact hCl); (case side2 => exact hlc); rintro e w2 ⟨v2, rfl, ho2, hb2⟩; refine ⟨_, rfl, ?_⟩; obtain ⟨g2, cap2, rfl⟩ := tree_Put.own ho2 hl5; obtain ⟨hcg, hfg, ho3, hb3⟩ := tree_Put.store ho2 hb2 h2 hi5 d; obtain ⟨w3, hw3⟩ : ∃ w3, w2.setCell ⟨g2, i.toNat, none⟩ (.int .u32 d) = w3 := ⟨_, rfl⟩; rw [hw3] at ho3 hb3; have hres3 := hres.kept (tree_above.grown hb3) (by simp); have hvv3 := hv.kept (tree_above.grown hb3) (by simp); have hrow3 := hrow.kept (tree_above.grown hb3) (tree_above.orNone _); clear hcv hfv hcr hfr; have hcv := hvv3.cell; have hfv := hvv3.frozen; have hsz3 := hb3.size)
          | ((with_reducible refine gate_builtin (b := .append) (xs := #[.tmp 35, .tmp 37]) rfl ?_); at_builtin; refine wpList_append_own _ rfl _ _ 22 rfl w.heap.size 40 i0 _ 1 24 Try.underlying22 hi0 hz0 hz1 hz2 rfl (by decide) _ _ _ rfl (hrow3.alloc _) ⟨w3.heap.size, 0, none⟩ 1 1 [Value.slice (some ⟨g2, 0, none⟩) cl.length cap2] rfl rfl (cell_one_new _ _ _) (by simp [Value.oneCell']) (by simp only [maxLen]; omega) (by omega) (by simp; omega) ?_; intro v' w4 hown' hgrow _; obtain ⟨g', cap', rfl⟩ := ownsRow_succ hown'; obtain ⟨hv4, hv5, hr5, hk5, hb5⟩ := hvv3.appended (by decide) hrow3 (Nat.le_trans hsz hsz3) hs1 hown' hgrow; clear hcv hfv; have hcv := hv4.cell; have hfv := hv4.frozen; have hf4 : tree_Make.Fix w.heap.size w3 w4 := (tree_Make.Fix.below ((Below.refl _ w3).alloc (Nat.le_refl _) _)).trans (tree_Make.Fix.row (hrow3.alloc (Obj.cells #[Value.slice (some ⟨g2, 0, none⟩) cl.length cap2] 40)) hgrow); have hf5 := hf4.trans (tree_Make.Fix.box (u := Value.slice (some { block := g', off := 0 }) (acc.length + 1) cap') hv4 (by decide)); obtain ⟨w5, hw5⟩ : ∃ w5, w4.setCell { block := xb, off := 0 } (Value.slice (some { block := g', off := 0 }) (acc.length + 1) cap') = w5 := ⟨_, rfl⟩; rw [hw5] at hf5 hv5 hr5 hb5; have hg5 := (tree_Make.Good.of_R hsz ho3).fix hf5; have hfw := (tree_Make.Fix.below hb3).trans hf5; have hres5 : Boxed w5 (w.heap.size + 1) 24 (.slice none 0 0) := hw5 ▸ ((hres3.alloc (Obj.cells #[Value.slice (some ⟨g2, 0, none⟩) cl.length cap2] 40)).kept hgrow ((hres3.alloc (Obj.cells #[Value.slice (some ⟨g2, 0, none⟩) cl.length cap2] 40)).not_row (by decide) (hrow3.alloc (Obj.cells #[Value.slice (some ⟨g2, 0, none⟩) cl.length cap2] 40)))).other hne _; have hb6 := (hb.trans (hb3.mono hsz)).trans hb5)
          | ((with_reducible refine gate_callee (f := 43) rfl ?_); refine goesL_ (some 43) rfl rfl Try.func43 (by kernel_rfl) rfl #[.slice (some ⟨g2, 0, none⟩) cl.length cap2, .int .i64 i] rfl argA ?_; (with_reducible refine (tree_Put.row hg5 (by rw [List.length_set]) hrr).mono ?_); rintro e w6 ⟨v6, rfl, ho6, hb7⟩; refine ⟨_, rfl, ?_⟩; obtain ⟨A6, c6, rfl⟩ := Kd.V_slice ho6; have hC6 := (Kd.V_reads' ho6).2)
          | ((with_reducible refine gate_callee (f := 25) rfl ?_); refine goesL_ (some 49) rfl rfl Try.func25 (by kernel_rfl) rfl #[.slice A6 row.length c6] rfl argA ?_; (with_reducible refine (tree_Row.calls kq A6 c6 row d' _ ?side1 ?side2 hd').mono ?_); (case side1 => exact hC6.2); (case side2 => exact hC6.1); rintro e w7 ⟨rfl, hb8⟩; refine ⟨_, rfl, ?_⟩))
         have hb9 := (hb7.mono (Nat.le_refl _)).trans (hb8.mono hb7.size)
         have hg9 := tree_above.grown hb9
         have hf9 := hfw.trans (tree_Make.Fix.below hb9)
         have hi9 : tree_Make.Inv w (w.heap.size + 1) xb (acc ++ [cl.set i.toNat d]) w7 :=
          ⟨hres5.kept hg9 (by simp), ⟨_, _, hv5.kept hg9 (by simp), by rw [List.length_append]; exact hr5.kept hg9 (tree_above.orNone _), (hreps.imp_ (fun x cs hx => by obtain ⟨u, rfl, hu⟩ := hx; exact ⟨u, rfl, hu.fix hf9⟩)).snoc ⟨_, rfl, hg5.fix (tree_Make.Fix.below hb9)⟩ rfl⟩, hb6.trans (hb9.mono hb6.size)⟩
         rw [hnn]
         refine ⟨⟨kq, n + 1, i / 4, d', acc ++ [cl.set i.toNat d], rfl, rfl, rfl, by omega, by omega, hi9, ⟨H⟩⟩, ?_⟩
         simp only [intOf]
         omega
        ·rw [if_neg h5] at H
         exact absurd H (by simp)
       ·rw [if_neg h4] at H
        exact absurd H (by simp)
      ·rw [if_neg h3] at H
       exact absurd H (by simp)
     ·rw [if_neg h2] at H
      exact absurd H (by simp)
    ·rw [if_neg h1] at H
     obtain rfl := Option.some.inj H
     have h1b : decide (n < (l0_0.length : Int)) = false := decide_eq_false h1
     go_wp2
     refine bodyPost_ret (results_ct rfl _ _ (w.heap.size + 1) 24 _ _ _ rfl (hres.set _) hu24 rfl (by kernel_rfl)) rfl ?_
     have hrow5 := hrow.kept (grownBy_setCell' wr (w.heap.size + 1) (Value.slice Av acc.length cv)) (.inr (hres.not_row (by decide) hrow).symm)
     have hf5 : tree_Make.Fix w.heap.size wr (wr.setCell { block := w.heap.size + 1, off := 0 } (Value.slice Av acc.length cv)) := tree_Make.Fix.box hres (by decide)
     exact ⟨_, rfl, tree_Make.read hrow5 (hreps.imp_ (fun x cs hx => by obtain ⟨u, rfl, hu⟩ := hx; exact ⟨u, rfl, hu.fix hf5⟩)), hb.setCell (p := ⟨w.heap.size + 1, 0, none⟩) (by simp) _⟩
 ·rw [if_neg e0] at h
  have e0b : (t0 != 0) = true := bne_iff_ne.mpr e0
  obtain ⟨rfl, rfl⟩ := Prod.mk.inj (Option.some.inj h)
  clear h
  go_wp2_with (first
   | ((with_reducible refine gate_callee (f := 42) rfl ?_); refine goesL_ (some 16) rfl rfl Try.func42 (by kernel_rfl) rfl #[.agg #[.slice A0_0 l0_0.length c0_0], .int .i64 a1] rfl argA ?_; (with_reducible refine (tree_at.calls k _ _ l0_0 a1 t0 _ ?side1 ?side2 hat).mono ?_); (case side1 => exact hC0); (case side2 => exact hc0); rintro e w1 ⟨rfl, hb1⟩; refine ⟨_, rfl, ?_⟩; have bP1 := bP.kept (tree_above.grown hb1) (by simp); have bR1 := bR.kept (tree_above.grown hb1) (by simp); have hbw1 := hb0.trans (hb1.mono hs0); clear hcP hcR hfR hW0; have hcP := (bP1.alloc (Obj.cells #[Value.slice none 0 0] 24)).cell; have hcR := bR1.cell; have hfR := bR1.frozen))
  clear bP bR hb0 hC0
  have hs1 := hbw1.size
  have hsW : w.heap.size + 2 ≤ w1.heap.size := by
   have := hb1.size
   omega
  clear hb1 hz
  exact bodyPost_ret (results_ct rfl _ _ (w.heap.size + 1) 24 _ _ _ rfl (bR1.set _) hu24 rfl (by kernel_rfl)) rfl ⟨_, rfl, tree_Make.read (World.ownsRow_nil _ _ _ _) (Reps.none _ _), hbw1.setCell (p := ⟨w.heap.size + 1, 0, none⟩) (by simp) _⟩

end Go.Proofs.Ytbmmddngadnofaa.F
