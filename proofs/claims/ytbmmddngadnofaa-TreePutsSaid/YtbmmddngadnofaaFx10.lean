-- Written by ext (this session's own program).
-- in short rows (short.py)
import Derived.Test.YtbmmddngadnofaaFx0
import Derived.Test.YtbmmddngadnofaaFx9
import Derived.RangeFuncNested
import Derived.Shelf.Abstract
import Derived.OwnWalkIn
import Derived.TacticsInMore
import Derived.LoopNIn
import Derived.LoopIn
namespace Go.Proofs.Ytbmmddngadnofaa.F
open Go.RowKit Go.Proofs.YtbmmddngadnofaaW.PrintWords Go.Proofs.YtbmmddngadnofaaW.PrintLast Go.Proofs.YtbmmddngadnofaaW.PrintMore
attribute [local go_sem] max2_int min2_int max_two min_two max_three min_three max_four min_four   -- for this text's walks alone
set_option linter.unusedVariables false
set_option linter.unusedSimpArgs false

/-! ### tree_Same: function 34 -/
open Go.Shelf
attribute [local go_sem] Oper.semAt_some
def tree_Same.rd (xs : List (List Int)) (i : Int) : List Int := xs.getD i.toNat []
theorem tree_Same.at_ {w : World} {A : Option Addr} {n : Nat} {xs : List (List Int)} (h : Kd.C (Kd.slice 25 (Kd.int .u32)) w A n xs) (i : Int) (h0 : 0 ≤ i) (h1 : i < n) : ∃ ad A0 c0, A = some ad ∧ w.cell? (ad.add i.toNat) = some (.slice A0 (tree_Same.rd xs i).length c0) ∧ (tree_Same.rd xs i).length ≤ c0 ∧ (Kd.int .u32).C w A0 (tree_Same.rd xs i).length (tree_Same.rd xs i) := by
 obtain ⟨ad, c, e, _, hK, hc0⟩ := Kd.C_get h ([] : List Int) i h0 h1
 have hc : ∀ j u, c[j]? = some u → w.cell? (ad.add (i.toNat * 1 + j)) = some u := hc0
 obtain ⟨A0, c0, rfl, l0, g0⟩ := hK
 exact ⟨ad, A0, c0, e, by have hq := hc 0 _ rfl; rwa [Nat.mul_one, Nat.add_zero] at hq, l0, g0⟩
def tree_Same.l0 : Nat → Int → List (List Int) → List (List Int) → Option Bool
 | 0, _, _, _ => none
 | k + 1, i, x, y => if i < (x.length : Int) then (if 0 ≤ i then (slices_Equal_uint32_uint32.f k (tree_Same.rd x i) (tree_Same.rd y i)).bind fun b => (if b = true then tree_Same.l0 k (i + 1) x y else some false) else none) else some true
def tree_Same.f (k : Nat) (x : List (List Int)) (y : List (List Int)) : Option Bool := if x.length = y.length then (if x.length < 9223372036854775807 then tree_Same.l0 k 0 x y else none) else some false
theorem tree_Same.mono_l : ∀ k, (∀ y0 y1 y2, LeO (tree_Same.l0 k y0 y1 y2) (tree_Same.l0 (k + 1) y0 y1 y2))
 | 0 => fun _ _ _ r h => by simp [tree_Same.l0] at h
 | k + 1 => by
  have ih0 := tree_Same.mono_l k
  intro y0 y1 y2
  unfold tree_Same.l0
  repeat' first
   | (with_reducible exact ih0 _ _ _)
   | (with_reducible exact slices_Equal_uint32_uint32.mono _ _ _)
   | (with_reducible exact LeO.refl _)
   | (with_reducible exact LeO.none _)
   | (with_reducible refine LeO.ite ?_ ?_)
   | (with_reducible refine LeO.bind ?_ (fun _ => ?_))
theorem tree_Same.mono : ∀ a0 a1 k, LeO (tree_Same.f k a0 a1) (tree_Same.f (k + 1) a0 a1) := by
 intro a0 a1 k
 have ih0 := tree_Same.mono_l k
 unfold tree_Same.f
 repeat' first
  | (with_reducible exact ih0 _ _ _)
  | (with_reducible exact LeO.refl _)
  | (with_reducible exact LeO.none _)
  | (with_reducible refine LeO.ite ?_ ?_)
  | (with_reducible refine LeO.bind ?_ (fun _ => ?_))
theorem tree_Same.drewN (w : World) (n : Nat) : Below w.heap.size w (w.drewN n) := ⟨rfl, rfl, rfl, Nat.le_refl _, fun _ _ => rfl⟩
theorem tree_Same.eq (k : Nat) (A0 : Option Addr) (c0 : Nat) (l0 : List Int) (A1 : Option Addr) (c1 : Nat) (l1 : List Int) (r : Bool) (w : World) (hr0 : Kd.C (Kd.int .u32) w A0 l0.length l0) (hc0 : l0.length ≤ c0) (hr1 : Kd.C (Kd.int .u32) w A1 l1.length l1) (hc1 : l1.length ≤ c1) (h : slices_Equal_uint32_uint32.f k l0 l1 = some r) :
  Calls Try.prog 56 #[.slice A0 l0.length c0, .slice A1 l1.length c1] w fun e w' => e = .returned (.bool r) ∧ Below w.heap.size w w' := by
 go_enter Try.func56, Try.ntmps56
 go_wp2_with ((with_reducible refine gate_callee (f := 57) rfl ?_); refine goesL_ (some 7) rfl rfl Try.func57 (by kernel_rfl) rfl #[.slice A0 l0.length c0, .slice A1 l1.length c1] rfl argA ?_; (refine (slices_Equal_uint32_uint32.calls k A0 c0 l0 A1 c1 l1 r _ hr0 hc0 hr1 hc1 h).mono ?_); rintro e w1 ⟨rfl, ⟨nd, rfl⟩⟩; refine ⟨_, rfl, ?_⟩)
 go_ret
 exact ⟨rfl, tree_Same.drewN _ _⟩
set_option maxHeartbeats 4000000 in
set_option maxRecDepth 100000 in
theorem tree_Same.func (k : Nat) (A0 : Option Addr) (c0 : Nat) (l0 : List (List Int)) (A1 : Option Addr) (c1 : Nat) (l1 : List (List Int)) (r : Bool) (w : World) (hr0 : Kd.C (Kd.slice 25 (Kd.int .u32)) w A0 l0.length l0) (hc0 : l0.length ≤ c0) (hr1 : Kd.C (Kd.slice 25 (Kd.int .u32)) w A1 l1.length l1) (hc1 : l1.length ≤ c1) (h : tree_Same.f k l0 l1 = some r) :
  CallsIn Fence.wide 5 Try.prog 55 #[.slice A0 l0.length c0, .slice A1 l1.length c1, .func (.func 56) #[] #[]] w fun e w' => e = .returned (.bool r) ∧ Below w.heap.size w w' := by
 refine callsIn_of_wp Try.func55 rfl trivial ?_ rfl
 simp only [Try.ntmps55, List.size_toArray, List.length_cons, List.length_nil, Nat.reduceAdd, Nat.reduceSub, Array.replicate_succ, Array.replicate_zero, List.push_toArray, List.append_toArray, List.nil_append, List.cons_append]
 unfold tree_Same.f at h
 by_cases h1 : l0.length = l1.length
 ·rw [if_pos h1] at h
  by_cases h2 : l0.length < 9223372036854775807
  ·rw [if_pos h2] at h
   have h1b : ((l0.length : Int) != (l1.length : Int)) = false := bne_eq_false_iff_eq.mpr (by omega)
   have h1c : ((l0.length : Int) == (l1.length : Int)) = true := beq_iff_eq.mpr (by omega)
   have h1d : (l0.length == l1.length) = true := beq_iff_eq.mpr h1
   have H1 := Aside0.mk h1
   clear h1
   gi_wp2
   gi_loopw [17] (fun p wr => ∃ (kq : Nat) (i : Int), p = .int .i64 i ∧ 0 ≤ i ∧ i ≤ (l0.length : Int) ∧ Below w.heap.size w wr ∧ Aside0 (tree_Same.l0 kq i l0 l1 = some r))
    (fun p wr => l0.length - (intOf p).toNat)
   case atStart => exact ⟨k, 0, rfl, by omega, by omega, Below.refl _ _, ⟨h⟩⟩
   case round =>
    obtain ⟨kq, i, rfl, hi0, hi1, hb, hL⟩ := hrel
    cases kq with
    | zero => exact absurd hL.out (by simp [tree_Same.l0])
    | succ kq =>
     have H := hL.out
     rw [tree_Same.l0] at H
     by_cases hi : i < (l0.length : Int)
     ·rw [if_pos hi, if_pos hi0] at H
      obtain ⟨b, hbq, H⟩ := Option.bind_eq_some_iff.mp H
      have hib : decide (i < (l0.length : Int)) = true := decide_eq_true hi
      obtain ⟨ad, Aa, ca, rfl, hxa, hla, hra⟩ := tree_Same.at_ (Kd.C_below hr0 hb) i hi0 hi
      obtain ⟨bd, Ab, cb, rfl, hxb, hlb, hrb⟩ := tree_Same.at_ (Kd.C_below hr1 hb) i hi0 (by have := H1.out; omega)
      have hi' : i < (l1.length : Int) := by have := H1.out; omega
      cases b with
      | true =>
       rw [if_pos rfl] at H
       gi_wp2_with (refine ⟨trivial, ?_⟩; gi_at_call 56; refine (callsIn_wide.2 (tree_Same.eq kq Aa ca _ Ab cb _ true _ hra hla hrb hlb hbq)).mono ?_; rintro e w2 ⟨rfl, hb2⟩)
       go_roundw
       case rel => exact ⟨kq, i + 1, rfl, by omega, by omega, hb.trans (hb2.mono hb.size), ⟨H⟩⟩
       case measure =>
        simp only [intOf]
        omega
      | false =>
       rw [if_neg (by simp)] at H
       obtain rfl := Option.some.inj H
       gi_wp2_with (refine ⟨trivial, ?_⟩; gi_at_call 56; refine (callsIn_wide.2 (tree_Same.eq kq Aa ca _ Ab cb _ false _ hra hla hrb hlb hbq)).mono ?_; rintro e w2 ⟨rfl, hb2⟩)
       refine bodyPost_ret (results_tmp rfl _ _ _) rfl ?_
       exact ⟨rfl, hb.trans (hb2.mono hb.size)⟩
     ·rw [if_neg hi] at H
      obtain rfl := Option.some.inj H
      have hib : decide (i < (l0.length : Int)) = false := decide_eq_false hi
      gi_wp2
      refine bodyPost_ret (results_tmp rfl _ _ _) rfl ?_
      exact ⟨rfl, hb⟩
  ·rw [if_neg h2] at h
   exact absurd h (by simp)
 ·rw [if_neg h1] at h
  obtain rfl := Option.some.inj h
  have h1b : ((l0.length : Int) != (l1.length : Int)) = true := bne_iff_ne.mpr (by omega)
  have h1c : ((l0.length : Int) == (l1.length : Int)) = false := beq_eq_false_iff_ne.mpr (by omega)
  have h1d : (l0.length == l1.length) = false := beq_eq_false_iff_ne.mpr h1
  gi_wp2
  refine bodyPost_ret (results_tmp rfl _ _ _) rfl ?_
  exact ⟨rfl, Below.refl _ _⟩
theorem tree_Same.calls (k : Nat) (A0_0 : Option Addr) (c0_0 : Nat) (l0_0 : List (List Int)) (A1_0 : Option Addr) (c1_0 : Nat) (l1_0 : List (List Int)) (r : Bool) (w : World) (hr0_0 : Kd.C (Kd.slice 25 (Kd.int .u32)) w A0_0 l0_0.length l0_0) (hc0_0 : l0_0.length ≤ c0_0) (hr1_0 : Kd.C (Kd.slice 25 (Kd.int .u32)) w A1_0 l1_0.length l1_0) (hc1_0 : l1_0.length ≤ c1_0) (h : tree_Same.f k l0_0 l1_0 = some r) :
  Calls Try.prog 34 #[.agg #[.slice A0_0 l0_0.length c0_0], .agg #[.slice A1_0 l1_0.length c1_0]] w fun e w' => e = .returned (.bool r) ∧ Below w.heap.size w w' := by
 have hu24 := Try.underlying24
 refine (callsIn_wide (n := 6)).1 ?_
 refine callsIn_of_wp Try.func34 rfl trivial ?_ rfl
 simp only [Try.ntmps34, List.size_toArray, List.length_cons, List.length_nil, Nat.reduceAdd, Nat.reduceSub, Array.replicate_succ, Array.replicate_zero, List.push_toArray, List.append_toArray, List.nil_append, List.cons_append]
 have hn5 : 1 ≤ 6 := by decide
 have hb : Below w.heap.size w ((w.alloc (Obj.cells #[.slice A0_0 l0_0.length c0_0] 24)).alloc (Obj.cells #[.slice A1_0 l1_0.length c1_0] 24)) := ((Below.refl _ w).alloc (Nat.le_refl _) _).alloc (by simp) _
 gi_wp2_with (refine ⟨trivial, ?_⟩; gi_at_call 55; refine (tree_Same.func k A0_0 c0_0 l0_0 A1_0 c1_0 l1_0 r _ (Kd.C_below hr0_0 hb) hc0_0 (Kd.C_below hr1_0 hb) hc1_0 h).mono ?_; rintro e w2 ⟨rfl, hb2⟩)
 refine bodyPost_ret (results_tmp rfl _ _ _) rfl ?_
 exact ⟨rfl, hb.trans (hb2.mono hb.size)⟩

end Go.Proofs.Ytbmmddngadnofaa.F
