-- Written by ext (this session's own program).
-- in short rows (short.py)
import Derived.Test.YtbmmddngadnofaaFx0
import Derived.Test.YtbmmddngadnofaaFx7
import Derived.Test.YtbmmddngadnofaaFx8
import Derived.Test.YtbmmddngadnofaaFx14
import Derived.Test.YtbmmddngadnofaaFx15
import Derived.RangeFuncNested
import Derived.RangeFuncBox
import Derived.Shelf.Abstract
import Derived.OwnWalkIn
import Derived.TacticsInMore
import Derived.LoopNIn
import Derived.LoopIn
import Derived.Maps.AppendAt
namespace Go.Proofs.Ytbmmddngadnofaa.F
open Go.RowKit Go.Proofs.YtbmmddngadnofaaW.PrintWords Go.Proofs.YtbmmddngadnofaaW.PrintLast Go.Proofs.YtbmmddngadnofaaW.PrintMore
attribute [local go_sem] max2_int min2_int max_two min_two max_three min_three max_four min_four   -- for this text's walks alone
set_option linter.unusedVariables false
set_option linter.unusedSimpArgs false

/-! ### plinthref25_Make: function 22 -/
open Go.Shelf
def plinthref25_Make.l1 : Nat → List Int → List Int → Int → Option (List Int)
 | 0, _, _, _ => none
 | k + 1, l, up, i => if i < (l.length : Int) then (if l.length ≤ 4096 then (plinthref25_row.f l i).bind fun rr => (plinthref25_Row.f k rr).bind fun d => plinthref25_Make.l1 k l (up ++ [d]) (i + 4) else none) else some up
def plinthref25_Make.l0 : Nat → List (List Int) → List Int → Option (List (List Int))
 | 0, _, _ => none
 | k + 1, acc, l => if 1 < l.length then (if acc.length < 1000 then (plinthref25_Make.l1 k l [] 0).bind fun up => (if up.length < l.length then plinthref25_Make.l0 k (acc ++ [up]) up else none) else none) else some acc
def plinthref25_Make.f (k : Nat) (l0 : List Int) : Option (List (List Int) × Int) := if l0.length < 1 then some ([], 250) else if 4096 < l0.length then some ([], 250) else (plinthref25_Make.l0 k [l0] l0).bind fun r => some (r, 0)
theorem plinthref25_Make.mono_l1 : ∀ k, (∀ y0 y1 y2, LeO (plinthref25_Make.l1 k y0 y1 y2) (plinthref25_Make.l1 (k + 1) y0 y1 y2))
 | 0 => fun _ _ _ r h => by simp [plinthref25_Make.l1] at h
 | k + 1 => by
  have ih0 := plinthref25_Make.mono_l1 k
  intro y0 y1 y2
  unfold plinthref25_Make.l1
  repeat' first
   | (with_reducible exact ih0 _ _ _)
   | (with_reducible exact plinthref25_Row.mono _ _)
   | (with_reducible exact LeO.refl _)
   | (with_reducible exact LeO.none _)
   | (with_reducible refine LeO.ite ?_ ?_)
   | (with_reducible refine LeO.bind ?_ (fun _ => ?_))
theorem plinthref25_Make.mono_l : ∀ k, (∀ y0 y1, LeO (plinthref25_Make.l0 k y0 y1) (plinthref25_Make.l0 (k + 1) y0 y1))
 | 0 => fun _ _ r h => by simp [plinthref25_Make.l0] at h
 | k + 1 => by
  have ih0 := plinthref25_Make.mono_l k
  have ih1 := plinthref25_Make.mono_l1 k
  intro y0 y1
  unfold plinthref25_Make.l0
  repeat' first
   | (with_reducible exact ih0 _ _)
   | (with_reducible exact ih1 _ _ _)
   | (with_reducible exact LeO.refl _)
   | (with_reducible exact LeO.none _)
   | (with_reducible refine LeO.ite ?_ ?_)
   | (with_reducible refine LeO.bind ?_ (fun _ => ?_))
theorem plinthref25_Make.mono : ∀ a0 k, LeO (plinthref25_Make.f k a0) (plinthref25_Make.f (k + 1) a0) := by
 intro a0 k
 have ih0 := plinthref25_Make.mono_l k
 unfold plinthref25_Make.f
 repeat' first
  | (with_reducible exact ih0 _ _)
  | (with_reducible exact LeO.refl _)
  | (with_reducible exact LeO.none _)
  | (with_reducible refine LeO.ite ?_ ?_)
  | (with_reducible refine LeO.bind ?_ (fun _ => ?_))
theorem plinthref25_Make.info_ : (Try.prog.info? 25).map (fun i => (i.zero, i.size, i.bytes)) = some (some (.int .u32 0), 1, 4) := by kernel_rfl
theorem plinthref25_Make.reps_ (w : World) (b : Nat) (ok : Nat → Prop) (l : List Int) : ∀ acc : List Int, Reps ((Kd.int .u32).M w b ok) 1 acc (nums .u32 acc) → Reps ((Kd.int .u32).M w b ok) 1 (acc ++ l) (nums .u32 (acc ++ l)) := by
 induction l with
 | nil => intro acc h; simpa using h
 | cons x l ih =>
  intro acc h
  have h2 := ih (acc ++ [x]) (by have := h.snoc (c := [.int .u32 x]) (p := x) rfl rfl; simpa [nums] using this)
  simpa using h2
theorem plinthref25_Make.reps (w : World) (b : Nat) (ok : Nat → Prop) (l : List Int) : Reps ((Kd.int .u32).M w b ok) 1 l (nums .u32 l) := plinthref25_Make.reps_ w b ok l [] (Reps.none _ _)
set_option maxHeartbeats 4000000 in
set_option maxRecDepth 100000 in
theorem plinthref25_Make.calls (k : Nat) (A0 : Option Addr) (c0 : Nat) (l0 : List Int) (r1 : List (List Int)) (r2 : Int) (w : World) (hr0 : Kd.C (Kd.int .u32) w A0 l0.length l0) (hc0 : l0.length ≤ c0) (h : plinthref25_Make.f k l0 = some (r1, r2)) :
  Calls Try.prog 22 #[.slice A0 l0.length c0] w fun e w' => ∃ v0_ : Value, e = .returned (.tuple #[.agg #[v0_], .int .i64 r2]) ∧ Kd.V (Kd.slice 25 (Kd.int .u32)) 40 w' w.heap.size (fun k_ => w.heap.size ≤ k_) v0_ r1 ∧ Below w.heap.size w w' := by
 have hu24 := Try.underlying24
 unfold plinthref25_Make.f at h
 by_cases h1 : l0.length < 1
 ·rw [if_pos h1] at h
  obtain ⟨rfl, rfl⟩ := Prod.mk.inj (Option.some.inj h)
  go_enter Try.func22, Try.ntmps22
  go_wp2
  exact bodyPost_ret (results_ct rfl _ _ w.heap.size 24 _ _ _ rfl (World.alloc_heap_new w _) hu24 rfl (by kernel_rfl)) rfl ⟨_, rfl, tree_Make.read (World.ownsRow_nil _ _ _ _) (Reps.none _ _), (Below.refl _ w).alloc (Nat.le_refl _) _⟩
 ·rw [if_neg h1] at h
  have h1i : ¬ ((l0.length : Int) < 1) := by omega
  by_cases h2 : 4096 < l0.length
  ·rw [if_pos h2] at h
   obtain ⟨rfl, rfl⟩ := Prod.mk.inj (Option.some.inj h)
   go_enter Try.func22, Try.ntmps22
   have h1b : decide ((l0.length : Int) < 1) = false := decide_eq_false (by omega)
   have h2b : decide (4096 < (l0.length : Int)) = true := decide_eq_true (by omega)
   go_wp2
   exact bodyPost_ret (results_ct rfl _ _ w.heap.size 24 _ _ _ rfl (World.alloc_heap_new w _) hu24 rfl (by kernel_rfl)) rfl ⟨_, rfl, tree_Make.read (World.ownsRow_nil _ _ _ _) (Reps.none _ _), (Below.refl _ w).alloc (Nat.le_refl _) _⟩
  ·rw [if_neg h2] at h
   obtain ⟨rs, hrs, h⟩ := Option.bind_eq_some_iff.mp h
   obtain ⟨rfl, rfl⟩ := Prod.mk.inj (Option.some.inj h)
   have h1b : decide ((l0.length : Int) < 1) = false := decide_eq_false (by omega)
   have h2b : decide (4096 < (l0.length : Int)) = false := decide_eq_false (by omega)
   have hrw := Kd.C_below hr0 ((Below.refl _ w).alloc (Nat.le_refl _) (Obj.cells #[Value.slice none 0 0] 24))
   go_enter Try.func22, Try.ntmps22
   clear h h1
   go_wp2_with (first | ((with_reducible refine gate_dst (N := 16) rfl ?_); refine Kd.R_lit (Kd.int .u32) _ 25 ?hg (N := 16) ?hd (xs := ([] : List Int)) (inner := []) (ok := fun _ => True) (okp := fun _ => True) ?hr ?hp (fun _ hk => hk) trivial (Below.refl _ _) (Nat.le_refl _) (by simp) ?_; (case hd => rfl); (case hg => rfl); (case hr => first | (go_simp; done) | (go_simp; rfl)); (case hp => exact (Reps.none _ _)); intro v0 w0 ho0 hb0 hg_ hnew_; clear hg_ hnew_) | ((with_reducible refine gate_builtin (b := .append) (xs := #[.tmp 16, .tmp 17]) rfl ?_); at_builtin; refine Kd.R_append_rows (Kd.int .u32) (w0 := w.alloc (Obj.cells #[Value.slice none 0 0] 24)) (w.alloc (Obj.cells #[Value.slice none 0 0] 24)).heap.size rfl (.tmp 16) (.tmp 17) 40 25 (.int .u32 0) 4 rfl Try.underlying40 plinthref25_Make.info_ rfl (by decide) (by omega) v0 [] l0 _ _ _ (fun _ => True) (fun _ => False) rfl rfl ?aO ?aR (fun _ _ h => h) (fun _ h => h.elim) ?aF ?aB ?aS ?aL ?_; (case aR => exact Kd.C_below hrw hb0); (case aB => exact hb0); (case aF => exact (fun _ _ => trivial)); (case aO => exact ho0); (case aS => exact below_size hb0); (case aL => simp; omega); intro v1 w1 ho1 hb1 hg hat; obtain ⟨A1, c1, hv1⟩ := Kd.R_slice ho1; subst hv1))
   have hs1 := hb1.size
   obtain ⟨W1, hW1⟩ : ∃ W1, ((w1.alloc (Obj.cells #[Value.slice A1 l0.length c1] 40)).alloc (Obj.cells #[Value.slice (some { block := w1.heap.size, off := 0 }) 1 1] 24)) = W1 := ⟨_, rfl⟩
   have hb2 : Below w.heap.size w W1 := by
    rw [← hW1]
    exact (((((Below.refl _ w).alloc (Nat.le_refl _) _).trans (hb1.mono (by simp))).alloc (by simp at hs1; omega) _).alloc (by simp at hs1 ⊢; omega) _)
   have hg1 := tree_Make.Good.of_R (n := w.heap.size) (by simp) ho1
   have hf1 : tree_Make.Fix w.heap.size w1 W1 := by
    rw [← hW1]
    exact (tree_Make.Fix.below ((Below.refl _ w1).alloc (Nat.le_refl _) _)).trans (tree_Make.Fix.below ((Below.refl _ (w1.alloc _)).alloc (Nat.le_refl _) _))
   have hI : tree_Make.Inv w w.heap.size (w1.heap.size + 1) [l0] W1 := by
    refine ⟨?_, ?_, hb2⟩
    ·rw [← hW1]
     exact (((Boxed.new w 24 _).kept (tree_above.grown hb1) (by simp)).alloc _).alloc _
    ·have hl : OwnRow (tree_Make.El w.heap.size W1) 40 1 (w1.alloc (.cells [Value.slice A1 l0.length c1].toArray 40)) w.heap.size (.slice (some ⟨w1.heap.size, 0, none⟩) [l0].length [l0].length) [l0] :=
      OwnRow.lit w1 w.heap.size ((Reps.none _ _).snoc (c := [Value.slice A1 l0.length c1]) (p := l0) ⟨_, rfl, hg1.fix hf1⟩ rfl) (by simp at hs1; omega) (by simp)
     obtain ⟨inner, hro, hre⟩ := hl
     refine ⟨.slice (some { block := w1.heap.size, off := 0 }) 1 1, inner, ?_, ?_, hre⟩
     ·rw [← hW1]
      have := Boxed.new (w1.alloc (Obj.cells #[Value.slice A1 l0.length c1] 40)) 24 (.slice (some { block := w1.heap.size, off := 0 }) 1 1)
      rwa [World.size_alloc] at this
     ·rw [← hW1]
      exact hro.alloc _
   have hne : w.heap.size ≠ w1.heap.size + 1 := by simp at hs1; omega
   have hxb : w.heap.size ≤ w1.heap.size + 1 := by simp at hs1; omega
   rw [hW1]
   generalize w1.heap.size + 1 = xb at hI hne hxb ⊢
   clear ho1 hb1 hs1 hg1 hf1 hb2 hW1 hrw ho0 hb0 hg hat
   go_loopw [0] (fun p wr => ∃ (kq : Nat) (acc : List (List Int)) (A : Option Addr) (l : List Int) (c : Nat), p = .slice A l.length c ∧ l.length ≤ c ∧ Kd.C (Kd.int .u32) wr A l.length l ∧ tree_Make.Inv w w.heap.size xb acc wr ∧ Aside0 (plinthref25_Make.l0 kq acc l = some rs))
    (fun p wr => match p with | .slice _ n _ => n | _ => 0)
   case atStart => exact ⟨k, [l0], A0, l0, c0, rfl, hc0, Kd.C_below hr0 hI.below, hI, ⟨hrs⟩⟩
   case round =>
    obtain ⟨kq, acc, A, l, c, rfl, hlc, hC, hJ, hL⟩ := hrel
    cases kq with
    | zero => exact absurd hL.out (by simp [plinthref25_Make.l0])
    | succ kq =>
     have H := hL.out
     rw [plinthref25_Make.l0] at H
     by_cases h1 : 1 < l.length
     ·rw [if_pos h1] at H
      have h1c : decide (1 < (l.length : Int)) = true := decide_eq_true (by omega)
      by_cases hlen : acc.length < 1000
      ·rw [if_pos hlen] at H
       obtain ⟨up, hup, H⟩ := Option.bind_eq_some_iff.mp H
       by_cases hul : up.length < l.length
       ·rw [if_pos hul] at H
        obtain ⟨hres, ⟨v, inner, hv, hrow, hreps⟩, hb⟩ := hJ
        obtain ⟨Av, cv, rfl, _⟩ := own_reads_row hrow hreps rfl
        obtain ⟨i0, hi, hz0, hz1, hz2⟩ := info_parts tree_Make.info_
        obtain ⟨i1, hi1, hy0, hy1, hy2⟩ := info_parts plinthref25_Make.info_
        have hsz := hb.size
        obtain ⟨wo, hwo⟩ : ∃ wo, wr = wo := ⟨wr, rfl⟩
        rw [hwo] at hres hv hrow hreps hb hC hsz ⊢
        clear hwo
        go_wp2
        go_loopw [5, 6] (fun p q W => ∃ (kp : Nat) (us : List Int) (i : Int), q = .int .i64 i ∧ 0 ≤ i ∧ i ≤ (l.length : Int) + 3 ∧ (us.length : Int) ≤ i ∧ W.ownsRow wo.heap.size 25 1 p us.length (nums .u32 us) ∧ Below wo.heap.size wo W ∧ Aside0 (plinthref25_Make.l1 kp l us i = some up))
         (fun p q W => l.length - (intOf q).toNat)
        case atStart => exact ⟨kq, [], 0, rfl, by omega, by omega, by simp, World.ownsRow_nil _ _ _ _, Below.refl _ _, ⟨hup⟩⟩
        case round =>
         obtain ⟨kp, us, i, rfl, hi0, hi3, hus, hou, hbu, hLu⟩ := hrel
         cases kp with
         | zero => exact absurd hLu.out (by simp [plinthref25_Make.l1])
         | succ kp =>
          have Hu := hLu.out
          rw [plinthref25_Make.l1] at Hu
          have hCW := Kd.C_below hC hbu
          have hszu := hbu.size
          by_cases hil : i < (l.length : Int)
          ·rw [if_pos hil] at Hu
           have hib : decide (i < (l.length : Int)) = true := decide_eq_true hil
           by_cases hl4 : l.length ≤ 4096
           ·rw [if_pos hl4] at Hu
            obtain ⟨rr, hrr, Hu⟩ := Option.bind_eq_some_iff.mp Hu
            obtain ⟨d, hd, Hu⟩ := Option.bind_eq_some_iff.mp Hu
            go_wp2_with (first | ((with_reducible refine gate_callee (f := 45) rfl ?_); refine goesL_ (some 33) rfl rfl Try.func45 (by kernel_rfl) rfl #[.slice A l.length c, .int .i64 i] rfl argA ?_; (refine (plinthref25_row.calls A c l i rr _ hCW hlc hrr).mono ?_); rintro e w3 ⟨v3, rfl, ho3, hb3⟩; obtain ⟨A3, c3, hv3⟩ := Kd.R_slice ho3; subst hv3; refine ⟨_, rfl, ?_⟩) | ((with_reducible refine gate_callee (f := 26) rfl ?_); refine goesL_ (some 34) rfl rfl Try.func26 (by kernel_rfl) rfl #[.slice A3 rr.length c3] rfl argA ?_; (refine (plinthref25_Row.calls kp A3 c3 rr d _ (Kd.R_reads' ho3).2.2 (Kd.R_reads' ho3).2.1 hd).mono ?_); rintro e w4 ⟨rfl, hb4⟩; refine ⟨_, rfl, ?_⟩; have hs3 := hb3.size; have hs4 := hb4.size; have hb34 := hb3.trans (hb4.mono hs3); have hou4 := hou.kept (tree_above.grown hb34) (tree_above.orNone _)) | ((with_reducible refine gate_builtin (b := .append) (xs := #[.tmp 30, .tmp 35]) rfl ?_); at_builtin; refine wpList_append_own _ rfl _ _ 40 rfl wo.heap.size 25 i1 _ 1 4 Try.underlying40 hi1 hy0 hy1 hy2 rfl (by decide) _ _ _ rfl (hou4.alloc _) ⟨w4.heap.size, 0, none⟩ 1 1 [Value.int .u32 d] rfl rfl (cell_one_new _ _ _) (by simp [Value.oneCell']) (by simp only [maxLen]; omega) (by omega) (by simp; omega) ?_; intro v' w5 hown' hgrow _; obtain ⟨g', cap', rfl⟩ := ownsRow_succ hown'))
            have hbz : Below wo.heap.size wo w5 := by
             have hx := (((Below.refl wo.heap.size wo).trans hbu).trans (hb34.mono hszu)).alloc (Nat.le_trans hszu (Nat.le_trans hs3 hs4)) (Obj.cells #[Value.int .u32 d] 25)
             exact hx.grown hgrow (by simp; omega) (fun j ej => own_base (hou4.alloc (Obj.cells #[Value.int .u32 d] 25)) j ej)
            go_roundw
            case rel => exact ⟨kp, us ++ [d], i + 4, rfl, by omega, by omega, by rw [List.length_append]; simp; omega, by rw [List.length_append]; simpa [nums] using hown', hbz, ⟨Hu⟩⟩
            case measure =>
             simp only [intOf]
             omega
           ·rw [if_neg hl4] at Hu
            exact absurd Hu (by simp)
          ·rw [if_neg hil] at Hu
           have hib : decide (i < (l.length : Int)) = false := decide_eq_false hil
           obtain rfl := Option.some.inj Hu
           obtain ⟨A2, c2, rfl, _⟩ := own_reads_row hou (plinthref25_Make.reps wr 0 (fun _ => True) us) rfl
           have hg2 := tree_above.grown hbu
           have ho2 : Kd.R (Kd.int .u32) 25 _ wo.heap.size (fun _ => True) (.slice A2 us.length c2) us := ⟨fun _ _ => trivial, _, hou, plinthref25_Make.reps _ _ _ _⟩
           have hres2 := hres.kept hg2 (by simp); have hvv2 := hv.kept hg2 (by simp); have hrow2 := hrow.kept hg2 (tree_above.orNone _); have hcv2 := hvv2.cell; have hfv2 := hvv2.frozen; have hsz2 := hbu.size
           go_wp2_with ((with_reducible refine gate_builtin (b := .append) (xs := #[.tmp 38, .tmp 40]) rfl ?_); at_builtin; refine wpList_append_own _ rfl _ _ 22 rfl w.heap.size 40 i0 _ 1 24 Try.underlying22 hi hz0 hz1 hz2 rfl (by decide) _ _ _ rfl (hrow2.alloc _) ⟨wr.heap.size, 0, none⟩ 1 1 [Value.slice A2 us.length c2] rfl rfl (cell_one_new _ _ _) (by simp [Value.oneCell']) (by simp only [maxLen]; omega) (by omega) (by simp; omega) ?_; intro v' w3 hown' hgrow _; obtain ⟨g', cap', rfl⟩ := ownsRow_succ hown'; obtain ⟨hv3, hv4, hr4, hk4, hb4⟩ := hvv2.appended (by decide) hrow2 (Nat.le_trans hsz hsz2) hxb hown' hgrow; have hcv3 := hv3.cell; have hfv3 := hv3.frozen)
           have hf3 : tree_Make.Fix w.heap.size wr w3 := (tree_Make.Fix.below ((Below.refl _ wr).alloc (Nat.le_refl _) _)).trans (tree_Make.Fix.row (hrow2.alloc (Obj.cells #[Value.slice A2 us.length c2] 40)) hgrow)
           have hf4 := hf3.trans (tree_Make.Fix.box (u := Value.slice (some { block := g', off := 0 }) (acc.length + 1) cap') hv3 (by decide))
           have hg4 := (tree_Make.Good.of_R hsz ho2).fix hf4
           have hfw := (tree_Make.Fix.below hbu).trans hf4
           have hres4 := ((hres2.alloc (Obj.cells #[Value.slice A2 us.length c2] 40)).kept hgrow ((hres2.alloc (Obj.cells #[Value.slice A2 us.length c2] 40)).not_row (by decide) (hrow2.alloc (Obj.cells #[Value.slice A2 us.length c2] 40)))).other hne (Value.slice (some { block := g', off := 0 }) (acc.length + 1) cap')
           have hb5 := (hb.trans (hbu.mono hsz)).trans hb4
           obtain ⟨W4, hW4⟩ : ∃ W4, w3.setCell { block := xb, off := 0 } (Value.slice (some { block := g', off := 0 }) (acc.length + 1) cap') = W4 := ⟨_, rfl⟩
           rw [hW4] at hf4 hg4 hfw hres4 hb5 hv4 hr4 ⊢
           obtain ⟨Ag, cg, eg, hcg, hrg⟩ := id hg4
           obtain ⟨rfl, _, rfl⟩ := Value.slice.inj eg
           go_roundw
           case rel => exact ⟨kq, acc ++ [us], _, us, _, rfl, hcg, hrg W4 (tree_Make.Fix.refl _ _), ⟨hres4, ⟨_, _, hv4, by rw [List.length_append]; exact hr4, (hreps.imp_ (fun x cs hx => by obtain ⟨u, rfl, hu⟩ := hx; exact ⟨u, rfl, hu.fix hfw⟩)).snoc ⟨_, rfl, hg4⟩ rfl⟩, hb5⟩, ⟨H⟩⟩
           case measure => exact hul
       ·rw [if_neg hul] at H
        exact absurd H (by simp)
      ·rw [if_neg hlen] at H
       exact absurd H (by simp)
     ·rw [if_neg h1] at H
      obtain rfl := Option.some.inj H
      have h1c : decide (1 < (l.length : Int)) = false := decide_eq_false (by omega)
      obtain ⟨hres, ⟨v, inner, hv, hrow, hreps⟩, hb⟩ := hJ
      obtain ⟨Av, cv, rfl, _⟩ := own_reads_row hrow hreps rfl
      have hcv := hv.cell
      have hfv := hv.frozen
      have hcr := hres.cell
      have hfr := hres.frozen
      go_wp2
      refine bodyPost_ret (results_ct rfl _ _ w.heap.size 24 _ _ _ rfl (hres.set _) hu24 rfl (by kernel_rfl)) rfl ?_
      have hrow5 := hrow.kept (grownBy_setCell' wr w.heap.size (Value.slice Av acc.length cv)) (.inr (hres.not_row (by decide) hrow).symm)
      have hf5 : tree_Make.Fix w.heap.size wr (wr.setCell { block := w.heap.size, off := 0 } (Value.slice Av acc.length cv)) := tree_Make.Fix.box hres (by decide)
      exact ⟨_, rfl, tree_Make.read hrow5 (hreps.imp_ (fun x cs hx => by obtain ⟨u, rfl, hu⟩ := hx; exact ⟨u, rfl, hu.fix hf5⟩)), hb.setCell (p := ⟨w.heap.size, 0, none⟩) (Nat.le_refl _) _⟩

end Go.Proofs.Ytbmmddngadnofaa.F
