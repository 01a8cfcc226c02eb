-- Written by ext (this session's own program).
-- in short rows (short.py)
import Derived.Test.YtbmmddngadnofaaFx0
import Derived.Test.YtbmmddngadnofaaFx11
import Derived.RangeFuncNested
import Derived.RangeFuncBox
import Derived.Shelf.Abstract
import Derived.OwnWalkIn
import Derived.TacticsInMore
import Derived.LoopNIn
import Derived.LoopIn
import Derived.Maps.AppendAt
import Derived.Deep.QuietTactic
import Derived.BigQuiet
namespace Go.Proofs.Ytbmmddngadnofaa.F
open Go.RowKit Go.Proofs.YtbmmddngadnofaaW.PrintWords Go.Proofs.YtbmmddngadnofaaW.PrintLast Go.Proofs.YtbmmddngadnofaaW.PrintMore
attribute [local go_sem] max2_int min2_int max_two min_two max_three min_three max_four min_four   -- for this text's walks alone
set_option linter.unusedVariables false
set_option linter.unusedSimpArgs false

/-! ### tree_Diff: function 35 -/
open Go.Shelf
theorem tree_Diff.not_row {W : World} {g : Nat} {t e : TypeId} {cs : Array Value} (h : W.heap[g]? = some (.cells cs t (0, 0))) (hte : t ≠ e) {base size k : Nat} {v : Value} {xs : List Value} (hr : W.ownsRow base e size v k xs) : some g ≠ v.ownBlock := by
 rcases hr.2 with ⟨rfl, _⟩ | ⟨g', cap, cur, rfl, _, hgb, _⟩
 ·simp [Value.ownBlock]
 ·intro he
  obtain rfl : g = g' := by simpa [Value.ownBlock] using he
  rw [h] at hgb
  exact hte (Obj.cells.inj (Option.some.inj hgb)).2.1
theorem tree_Diff.grown (W : World) (b i : Nat) (v : Value) : W.grownBy (W.setCell ⟨b, i, none⟩ v) (some b) :=
 ⟨rfl, rfl, rfl, (KeepsWalks.setCell W _ v).size, fun k _ hk => Below.heap_setCell _ _ _ k (fun e => hk (by rw [e]))⟩
structure tree_Diff.J (w0 : World) (b : Nat) (sa sb : Value) (p : Int) (fs : List Int) (W : World) : Prop where
 blk : ∃ v, W.heap[b]? = some (.cells #[sa, sb, .int .i64 p, v] 97 (0, 0)) ∧ W.ownsRow w0.heap.size 3 1 v fs.length (nums .i64 fs)
 below : Below w0.heap.size w0 W
def tree_Diff.run (f : Int → Int → List Int → Option (Int × List Int)) : Nat → Int → Int → List Int → Option (Int × List Int)
 | 0, _, p, fs => some (p, fs)
 | r + 1, n, p, fs => (f n p fs).bind fun q => tree_Diff.run f r (n + 1) q.1 q.2
def tree_Diff.dn : Nat → List (List Int) → List (List Int) → Int → List Int → Int → Int → Option (Int × List Int)
 | 0, _, _, _, _, _, _ => none
 | k + 1, a, b, p, fs, lv, i => if 0 ≤ lv then if lv < (a.length : Int) then if lv < (b.length : Int) then if 0 ≤ i then if i < ((rd_L1 a lv).length : Int) then if i < ((rd_L1 b lv).length : Int) then
   if 0 ≤ p then if p < 1000000000 then if i < 1000000000 then
   if rd (rd_L1 a lv) i = rd (rd_L1 b lv) i then some (p + 1, fs) else
   if lv = 0 then (if fs.length < 1000000000 then some (p + 1, fs ++ [i]) else none) else
   tree_Diff.run (fun n p fs => if i * 4 + n < ((rd_L1 a (lv - 1)).length : Int) then tree_Diff.dn k a b p fs (lv - 1) (i * 4 + n) else some (p, fs)) 4 0 (p + 1) fs
  else none else none else none else none else none else none else none else none else none
theorem tree_Diff.info_ : (Try.prog.info? 3).map (fun i => (i.zero, i.size, i.bytes)) = some (some (.int .i64 0), 1, 8) := by kernel_rfl
set_option maxHeartbeats 8000000 in
set_option maxRecDepth 100000 in
theorem tree_Diff.down (w0 : World) (b : Nat) (A : Option Addr) (ca : Nat) (xa : List (List Int)) (B : Option Addr) (cb : Nat) (xb : List (List Int)) (hb : w0.heap.size ≤ b)
  (hA : Kd.C (Kd.slice 25 (Kd.int .u32)) w0 A xa.length xa) (hB : Kd.C (Kd.slice 25 (Kd.int .u32)) w0 B xb.length xb) (k : Nat) : ∀ (p : Int) (fs : List Int) (lv i : Int) (p' : Int) (fs' : List Int) (W : World),
  tree_Diff.J w0 b (.slice A xa.length ca) (.slice B xb.length cb) p fs W → tree_Diff.dn k xa xb p fs lv i = some (p', fs') →
  Calls Try.prog 58 #[.pointer (some ⟨b, 0, none⟩), .int .i64 lv, .int .i64 i] W fun e W' => e = .returned (.tuple #[]) ∧ tree_Diff.J w0 b (.slice A xa.length ca) (.slice B xb.length cb) p' fs' W' := by
 induction k with
 | zero => intro p fs lv i p' fs' W _ h; simp [tree_Diff.dn] at h
 | succ k ih =>
  intro p fs lv i p' fs' W hJ h
  rw [tree_Diff.dn] at h
  by_cases c1 : 0 ≤ lv
  ·by_cases c2 : lv < (xa.length : Int)
   ·by_cases c3 : lv < (xb.length : Int)
    ·by_cases c4 : 0 ≤ i
     ·by_cases c5 : i < ((rd_L1 xa lv).length : Int)
      ·by_cases c6 : i < ((rd_L1 xb lv).length : Int)
       ·by_cases c7 : 0 ≤ p
        ·by_cases c8 : p < 1000000000
         ·by_cases c9 : i < 1000000000
          ·simp only [if_pos c1, if_pos c2, if_pos c3, if_pos c4, if_pos c5, if_pos c6, if_pos c7, if_pos c8, if_pos c9] at h
           obtain ⟨⟨v, hblk, hrow⟩, hbel⟩ := hJ
           have hA1 := Kd.C_below hA hbel
           have hB1 := Kd.C_below hB hbel
           obtain ⟨ad1, A1, c1_, rfl, hx1, hl1, hC1⟩ := at_L1 hA1 lv c1 c2
           obtain ⟨ad2, A2, c2_, rfl, hx2, hl2, hC2⟩ := at_L1 hB1 lv c1 c3
           obtain ⟨k0, k1, k2, k3, f0, f1, f2, f3⟩ := cells4 hblk
           have hw : wrap64 (p + 1) = p + 1 := by unfold wrap64; omega
           have hlva : lv.toNat < xa.length := by omega
           have hlvb : lv.toNat < xb.length := by omega
           have d1 : decide (0 ≤ lv) = true := decide_eq_true c1
           have d4 : decide (0 ≤ i) = true := decide_eq_true c4
           have hrest : ∃ e1b : Bool, (rd (rd_L1 xa lv) i == rd (rd_L1 xb lv) i) = e1b := ⟨_, rfl⟩
           obtain ⟨e1b, he1⟩ := hrest
           go_enter Try.func58, Try.ntmps58
           go_wp2
           obtain ⟨W2, hW2⟩ : ∃ W2, W.setCell ⟨b, 2, none⟩ (.int .i64 (p + 1)) = W2 := ⟨_, rfl⟩
           rw [hW2]
           have hblk2 : W2.heap[b]? = some (.cells #[.slice (some ad1) xa.length ca, .slice (some ad2) xb.length cb, .int .i64 (p + 1), v] 97 (0, 0)) := hW2 ▸ blk_set hblk 2 _
           have hrow2 : W2.ownsRow w0.heap.size 3 1 v fs.length (nums .i64 fs) := hW2 ▸ hrow.kept (tree_Diff.grown W b 2 _) (.inr (tree_Diff.not_row hblk (by decide) hrow).symm)
           have hbel2 : Below w0.heap.size w0 W2 := hW2 ▸ hbel.setCell (p := ⟨b, 2, none⟩) hb _
           clear hblk hrow hbel k0 k1 k2 k3 f0 f1 f2 f3 hx1 hx2 hl1 hl2 hC1 hC2 hA1 hB1 hW2
           have hA2 := Kd.C_below hA hbel2
           have hB2 := Kd.C_below hB hbel2
           obtain ⟨_, A1, c1_, e, hx1, hl1, hC1⟩ := at_L1 hA2 lv c1 c2
           cases e
           obtain ⟨_, A2, c2_, e, hx2, hl2, hC2⟩ := at_L1 hB2 lv c1 c3
           cases e
           obtain ⟨ad3, rfl, hx3⟩ := Kd.at_int hC1 i c4 c5
           obtain ⟨ad4, rfl, hx4⟩ := Kd.at_int hC2 i c4 c6
           obtain ⟨k0, k1, k2, k3, f0, f1, f2, f3⟩ := cells4 hblk2
           go_quiet (fail)
           replace hblk2 := blk_drewN hblk2 nq
           replace hrow2 : (W2.drewN nq).ownsRow w0.heap.size 3 1 v fs.length (nums .i64 fs) := hrow2
           replace hbel2 := pw_below_drewN hbel2 nq
           replace hx1 : (W2.drewN nq).cell? (ad1.add lv.toNat) = some (.slice (some ad3) (rd_L1 xa lv).length c1_) := hx1
           clear hC1 hC2 hl1 hl2 hx2 hx3 hx4 k0 k1 k2 k3 f0 f1 f2 f3 hA2 hB2
           generalize W2.drewN nq = W3 at *
           clear W2
           obtain ⟨k0, k1, k2, k3, f0, f1, f2, f3⟩ := cells4 hblk2
           cases e1b with
           | true =>
            rw [if_pos (beq_iff_eq.mp he1)] at h
            obtain ⟨rfl, rfl⟩ := Prod.mk.inj (Option.some.inj h)
            go_wp2
            exact bodyPost_ret (results_none rfl _ _ _) rfl ⟨rfl, ⟨_, hblk2, hrow2⟩, hbel2⟩
           | false =>
            rw [if_neg (beq_eq_false_iff_ne.mp he1)] at h
            by_cases e2 : lv = 0
            ·rw [if_pos e2] at h
             have e2b : (lv == 0) = true := beq_iff_eq.mpr e2
             by_cases e3 : fs.length < 1000000000
             ·rw [if_pos e3] at h
              obtain ⟨rfl, rfl⟩ := Prod.mk.inj (Option.some.inj h)
              clear e2
              have hsz := hbel2.size
              obtain ⟨Av, cv, rfl⟩ : ∃ A c, v = .slice A fs.length c := by
               rcases hrow2.2 with ⟨rfl, h0⟩ | ⟨g, cap, _, rfl, _⟩
               ·exact ⟨none, 0, by rw [h0]⟩
               ·exact ⟨_, _, rfl⟩
              obtain ⟨i0, hi0, hz0, hz1, hz2⟩ := info_parts tree_Diff.info_
              go_wp2_with ((with_reducible refine gate_builtin (b := .append) (xs := #[.tmp 44, .tmp 46]) rfl ?_); at_builtin; refine wpList_append_own _ rfl _ _ 56 rfl w0.heap.size 3 i0 _ 1 8 Try.underlying56 hi0 hz0 hz1 hz2 rfl (by decide) _ _ _ rfl (hrow2.alloc _) ⟨W3.heap.size, 0, none⟩ 1 1 [Value.int .i64 i] rfl rfl (cell_one_new _ _ _) (by simp [Value.oneCell']) (by simp only [maxLen]; omega) (by omega) (by simp; omega) ?_; intro v' W4 hown' hgrow _; obtain ⟨g', cap', rfl⟩ := ownsRow_succ hown'; have hblk4 := blk_grown (blk_alloc hblk2 _) hgrow (tree_Diff.not_row hblk2 (by decide) hrow2); have hbel4 := (hbel2.alloc hsz (.cells #[.int .i64 i] 3)).grown hgrow (by simp; omega) (own_base hrow2); clear k0 k1 k2 k3 f0 f1 f2 f3; obtain ⟨k0, k1, k2, k3, f0, f1, f2, f3⟩ := cells4 hblk4)
              have hn4 := tree_Diff.not_row hblk4 (by decide) hown'
              exact bodyPost_ret (results_none rfl _ _ _) rfl ⟨rfl, ⟨_, blk_set hblk4 3 _, by rw [List.length_append]; simpa [nums] using hown'.kept (tree_Diff.grown W4 b 3 _) (.inr hn4.symm)⟩, hbel4.setCell (p := ⟨b, 3, none⟩) hb _⟩
             ·simp [e3] at h
            ·rw [if_neg e2] at h
             have e2b : (lv == 0) = false := beq_eq_false_iff_ne.mpr e2
             have hxl := hA.2.1
             have hw1 : wrap64 (lv - 1) = lv - 1 := by unfold wrap64; omega
             have hj0 : 0 ≤ lv - 1 := by omega
             have hja : lv - 1 < (xa.length : Int) := by omega
             obtain ⟨j, hj⟩ : ∃ j, lv - 1 = j := ⟨_, rfl⟩
             rw [hj] at h hj0 hja
             replace hw1 : wrap64 (lv - 1) = j := hw1.trans hj
             clear k0 k1 k2 k3 f0 f1 f2 f3 hx1
             go_wp2
             go_loopw [50] (fun q wr => ∃ (n : Int) (r : Nat) (p1 : Int) (f1 : List Int), q = .int .i64 n ∧ 0 ≤ n ∧ n + r = 4 ∧ tree_Diff.J w0 b (.slice (some ad1) xa.length ca) (.slice (some ad2) xb.length cb) p1 f1 wr ∧ Aside0 (tree_Diff.run (fun n p fs => if i * 4 + n < ((rd_L1 xa j).length : Int) then tree_Diff.dn k xa xb p fs j (i * 4 + n) else some (p, fs)) r n p1 f1 = some (p', fs')))
              (fun q wr => 4 - (intOf q).toNat)
             case atStart => exact ⟨0, 4, p + 1, fs, rfl, by omega, by omega, ⟨⟨_, hblk2, hrow2⟩, hbel2⟩, ⟨h⟩⟩
             case round =>
              clear h hblk2 hrow2 hbel2
              obtain ⟨n, r, p1, f1, rfl, hn0, hn4, ⟨⟨v1, hblk1, hrow1⟩, hbel1⟩, hL⟩ := hrel
              have hA1 := Kd.C_below hA hbel1
              obtain ⟨_, A1, cc1, e, hx1, hl1, hC1⟩ := at_L1 hA1 j hj0 hja
              cases e
              obtain ⟨k0, k1, k2, k3, g0, g1, g2, g3⟩ := cells4 hblk1
              have H := hL.out
              clear hL
              cases r with
              | zero =>
               rw [tree_Diff.run] at H
               obtain ⟨rfl, rfl⟩ := Prod.mk.inj (Option.some.inj H)
               have hb4 : decide (n < 4) = false := decide_eq_false (by omega)
               go_wp2
               go_end0
               exact ⟨rfl, ⟨_, hblk1, hrow1⟩, hbel1⟩
              | succ r =>
               rw [tree_Diff.run] at H
               obtain ⟨⟨p2, f2⟩, hq, H⟩ := Option.bind_eq_some_iff.mp H
               have hb4 : decide (n < 4) = true := decide_eq_true (by omega)
               have hm1 : wrap64 (i * 4) = i * 4 := by unfold wrap64; omega
               have hm2 : wrap64 (i * 4 + n) = i * 4 + n := by unfold wrap64; omega
               by_cases e5 : i * 4 + n < ((rd_L1 xa j).length : Int)
               ·rw [if_pos e5] at hq
                have e5b : decide (i * 4 + n < ((rd_L1 xa j).length : Int)) = true := decide_eq_true e5
                go_wp2_with (refine (ih p1 f1 j (i * 4 + n) p2 f2 wr ⟨⟨_, hblk1, hrow1⟩, hbel1⟩ hq).mono ?_; rintro e W5 ⟨rfl, hJ5⟩)
                go_roundw
                case rel => exact ⟨n + 1, r, p2, f2, rfl, by omega, by omega, hJ5, ⟨H⟩⟩
                case measure =>
                 simp only [intOf]
                 omega
               ·rw [if_neg e5] at hq
                have e5b : decide (i * 4 + n < ((rd_L1 xa j).length : Int)) = false := decide_eq_false e5
                obtain ⟨rfl, rfl⟩ := Prod.mk.inj (Option.some.inj hq)
                go_wp2
                go_roundw
                case rel => exact ⟨n + 1, r, p1, f1, rfl, by omega, by omega, ⟨⟨_, hblk1, hrow1⟩, hbel1⟩, ⟨H⟩⟩
                case measure =>
                 simp only [intOf]
                 omega
          ·simp [c9] at h
         ·simp [c8] at h
        ·simp [c7] at h
       ·simp [c6] at h
      ·simp [c5] at h
     ·simp [c4] at h
    ·simp [c3] at h
   ·simp [c2] at h
  ·simp [c1] at h
def tree_Diff.T1 : Bool × List (List Nat × List Nat) := (true, [([], []), ([0], [0]), ([1], [1]), ([2, 1], [2]), ([3], [3]), ([4, 3, 3], [3, 4]), ([5, 3], [3, 5]), ([3, 6], [3, 6]), ([7, 5], [7]), ([8], [8]), ([9, 8], [8, 9]), ([10, 8], [8, 10]), ([11, 8], [8, 11]), ([12, 8], [8, 12]), ([8], [8]), ([14, 8], [8, 14]), ([15, 8], [8, 15]), ([16, 8], [8, 16]), ([17, 8], [8, 17]), ([13, 18, 8], [8, 13, 18]), ([8, 19], [8, 19])])
def tree_Diff.B1 : List Nat := [0, 1, 3, 7, 15, 31, 63, 127, 255, 511, 1023, 2047, 4095, 8191, 511, 16895, 49663, 115199, 246271, 524287, 1048575]
theorem tree_Diff.tab1 : rtab .any (opsOf Try.f35 1) = tree_Diff.T1 := by kernel_rfl
theorem tree_Diff.bits1 : waitsOk tree_Diff.T1.2 tree_Diff.B1 = true := by kernel_rfl
def tree_Diff.f (k : Nat) (a b : List (List Int)) : Option (List Int × Int × Int) := (tree_Check.f k a).bind fun t => if t = 0 then ((tree_Check.f k b).bind fun u => if u = 0 then (if 0 < (a.length : Int) then (if 0 < (b.length : Int) then (if ((rd_L1 a 0).length : Int) = ((rd_L1 b 0).length : Int) then ((tree_Diff.dn k a b 0 [] ((a.length : Int) - 1) 0).bind fun q => some (q.2, q.1, 0)) else some ([], 0, 250)) else none) else none) else some ([], 0, 250)) else some ([], 0, 250)
theorem tree_Diff.run_mono {f g : Int → Int → List Int → Option (Int × List Int)} (h : ∀ n p fs, LeO (f n p fs) (g n p fs)) : ∀ (r : Nat) (n p : Int) (fs : List Int), LeO (tree_Diff.run f r n p fs) (tree_Diff.run g r n p fs)
 | 0, _, _, _ => LeO.refl _
 | r + 1, n, p, fs => by
  unfold tree_Diff.run
  exact LeO.bind (h n p fs) (fun q => tree_Diff.run_mono h r (n + 1) q.1 q.2)
theorem tree_Diff.dn_mono : ∀ (k : Nat) (a b : List (List Int)) (p : Int) (fs : List Int) (lv i : Int), LeO (tree_Diff.dn k a b p fs lv i) (tree_Diff.dn (k + 1) a b p fs lv i)
 | 0, _, _, _, _, _, _ => fun r h => by simp [tree_Diff.dn] at h
 | k + 1, a, b, p, fs, lv, i => by
  have ih := tree_Diff.dn_mono k
  unfold tree_Diff.dn
  repeat' first
   | (with_reducible exact LeO.refl _)
   | (with_reducible refine LeO.ite ?_ ?_)
  refine tree_Diff.run_mono (fun n p fs => ?_) _ _ _ _
  exact LeO.ite (ih _ _ _ _ _ _) (LeO.refl _)
theorem tree_Diff.mono : ∀ a b k, LeO (tree_Diff.f k a b) (tree_Diff.f (k + 1) a b) := by
 intro a b k
 unfold tree_Diff.f
 repeat' first
  | (with_reducible exact tree_Check.mono _ _)
  | (with_reducible exact tree_Diff.dn_mono _ _ _ _ _ _ _)
  | (with_reducible exact LeO.refl _)
  | (with_reducible exact LeO.none _)
  | (with_reducible refine LeO.ite ?_ ?_)
  | (with_reducible refine LeO.bind ?_ (fun _ => ?_))
theorem tree_Diff.reps_ (w : World) (b : Nat) (ok : Nat → Prop) (l : List Int) : ∀ acc : List Int, Reps ((Kd.int .i64).M w b ok) 1 acc (nums .i64 acc) → Reps ((Kd.int .i64).M w b ok) 1 (acc ++ l) (nums .i64 (acc ++ l)) := by
 induction l with
 | nil => intro acc h; simpa using h
 | cons x l ih =>
  intro acc h
  have h2 := ih (acc ++ [x]) (by have := h.snoc (c := [.int .i64 x]) (p := x) rfl rfl; simpa [nums] using this)
  simpa using h2
theorem tree_Diff.reps (w : World) (b : Nat) (ok : Nat → Prop) (l : List Int) : Reps ((Kd.int .i64).M w b ok) 1 l (nums .i64 l) := tree_Diff.reps_ w b ok l [] (Reps.none _ _)
set_option maxHeartbeats 8000000 in
set_option maxRecDepth 100000 in
/-- Behind the tests, when there is no walk. -/
theorem tree_Diff.calls (k : Nat) (A0 : Option Addr) (c0 : Nat) (l0 : List (List Int)) (A1 : Option Addr) (c1 : Nat) (l1 : List (List Int)) (r1 : List Int) (r2 r3 : Int) (w : World) (hr0 : Kd.C (Kd.slice 25 (Kd.int .u32)) w A0 l0.length l0) (hc0 : l0.length ≤ c0) (hr1 : Kd.C (Kd.slice 25 (Kd.int .u32)) w A1 l1.length l1) (hc1 : l1.length ≤ c1) (h : tree_Diff.f k l0 l1 = some (r1, r2, r3)) :
  Calls Try.prog 35 #[.agg #[.slice A0 l0.length c0], .agg #[.slice A1 l1.length c1]] w fun e w' => ∃ v0_ : Value, e = .returned (.tuple #[v0_, .int .i64 r2, .int .i64 r3]) ∧ Kd.R (Kd.int .i64) 3 w' w.heap.size (fun _ => True) v0_ r1 ∧ Below w.heap.size w w' := by
 have hu24 := Try.underlying24
 have hu97 := Try.underlying97
 have HB := Aside0.mk (Below.refl w.heap.size w)
 unfold tree_Diff.f at h
 have H := h
 clear h
 go_enter Try.func35, Try.ntmps35
 go_upto_region 1 with (first
  | ((with_reducible refine gate_dst (N := 2) rfl ?_); refine box_event ?hg (N := 2) ?hd (cs := #[.slice A0 l0.length c0]) (t := 24) ?hr ?_; (case hd => rfl); (case hg => rfl); (case hr => first | (go_simp; done) | (go_simp; rfl)); intro ga hga w4 hbox hb; have BKa := Aside0.mk hbox; have GEa := Aside0.mk ((by rw [hga]; exact (below_size (upB0 HB.out)) : w.heap.size ≤ ga)); replace HB := Aside0.mk (below_step (upB0 HB.out) hb); clear hb hbox hga)
  | ((with_reducible refine gate_dst (N := 3) rfl ?_); refine box_event ?hg (N := 3) ?hd (cs := #[.slice A1 l1.length c1]) (t := 24) ?hr ?_; (case hd => rfl); (case hg => rfl); (case hr => first | (go_simp; done) | (go_simp; rfl)); intro gc hgc w5 hbox hb; have BKc := Aside0.mk hbox; have GEc := Aside0.mk ((by rw [hgc]; exact (below_size (upB1 HB.out GEa.out)) : w.heap.size ≤ gc)); replace HB := Aside0.mk (below_step (upB1 HB.out GEa.out) hb); replace BKa := Aside0.mk (blk_below (upK BKa.out) hb); clear hb hbox hgc))
 (try simp only [Act.put, List.setIfInBounds_toArray, List.set_cons_zero, List.set_cons_succ])
 obtain ⟨t0, hA0, H⟩ := Option.bind_eq_some_iff.mp H
 replace BKa := Aside0.mk (blk_drew BKa.out)
 replace BKc := Aside0.mk (blk_drew BKc.out)
 replace HB := Aside0.mk (below_drew1 HB.out)
 by_cases e0 : t0 = 0
 ·rw [if_pos e0] at H
  have e0b : (t0 != 0) = false := bne_eq_false_iff_eq.mpr e0
  obtain ⟨t1, hA1, H⟩ := Option.bind_eq_some_iff.mp H
  by_cases e1 : t1 = 0
  ·rw [if_pos e1] at H
   have e1b : (t1 != 0) = false := bne_eq_false_iff_eq.mpr e1
   by_cases e2 : 0 < (l0.length : Int)
   ·rw [if_pos e2] at H
    by_cases e3 : 0 < (l1.length : Int)
    ·rw [if_pos e3] at H
     have e2b : decide (0 < (l0.length : Int)) = true := decide_eq_true e2
     have e3b : decide (0 < (l1.length : Int)) = true := decide_eq_true e3
     have e2c : (0 < l0.length) = True := eq_true (by omega)
     have e3c : (0 < l1.length) = True := eq_true (by omega)
     obtain ⟨ad0, B0, d0, ea, hx0, _, _⟩ := at_L1 hr0 0 (Int.le_refl _) e2
     obtain ⟨ad1, B1, d1, ec, hx1, _, _⟩ := at_L1 hr1 0 (Int.le_refl _) e3
     rw [show ((0 : Int)).toNat = 0 from rfl, Addr.add_zero'] at hx0 hx1
     subst ea
     subst ec
     obtain ⟨xb, hxb⟩ : ∃ xb, (((rd_L1 l0 0).length : Int) != ((rd_L1 l1 0).length : Int)) = xb := ⟨_, rfl⟩
     refine start_ (n := 21) (S := fun w' => w'.cell? ⟨ga, 0, none⟩ = some (.slice (some ad0) l0.length c0) ∧ w'.cell? ⟨gc, 0, none⟩ = some (.slice (some ad1) l1.length c1) ∧ w'.cell? ad0 = some (.slice B0 (rd_L1 l0 0).length d0) ∧ w'.cell? ad1 = some (.slice B1 (rd_L1 l1 0).length d1)) (ds := []) (Array.replicate 21 false) (by kernel_rfl) rfl rfl ⟨(blk_cell BKa.out 0).trans rfl, (blk_cell BKc.out 0).trans rfl, (HB.out.cell (World.block_lt_of_cell? w _ hx0)).trans hx0, (HB.out.cell (World.block_lt_of_cell? w _ hx1)).trans hx1⟩ (fun hHeld => ?_)
     refine with_tabW tree_Diff.tab1 tree_Diff.bits1 (fun HT_ HW_ => ?_)
     generalize w5.drew = w6 at BKa BKc HB hHeld ⊢
     refine tM 0 8 HT_.out HW_.out hHeld ?_
     refine oM 1 9 HT_.out (fun K hK => ?_)
     refine gM Try.func32 #[.agg #[.slice (some ad0) l0.length c0]] ?_
     with_reducible refine (tree_Check.calls k _ _ l0 t0 _ ?side1 ?side2 hA0).mono ?_
     (case side1 => exact Kd.C_below hr0 HB.out)
     (case side2 => exact hc0)
     rintro e w7 ⟨rfl, hb⟩
     refine ⟨_, rfl, ?_⟩
     replace BKa := Aside0.mk (blk_below (upK BKa.out) hb)
     replace BKc := Aside0.mk (blk_below (upK BKc.out) hb)
     replace HB := Aside0.mk (below_step (upB2 HB.out GEa.out GEc.out) hb)
     clear hb
     refine hK.out _ _ ⟨(blk_cell BKa.out 0).trans rfl, (blk_cell BKc.out 0).trans rfl, (HB.out.cell (World.block_lt_of_cell? w _ hx0)).trans hx0, (HB.out.cell (World.block_lt_of_cell? w _ hx1)).trans hx1⟩ (fun hHeld => ?_)
     clear hK K
     refine nM 9 ?_; refine pM 2 10 HT_.out ?_; refine pM 3 11 HT_.out ?_; refine tM 4 12 HT_.out HW_.out hHeld ?_
     refine oM 5 13 HT_.out (fun K hK => ?_)
     refine gM Try.func32 #[.agg #[.slice (some ad1) l1.length c1]] ?_
     with_reducible refine (tree_Check.calls k _ _ l1 t1 _ ?side1 ?side2 hA1).mono ?_
     (case side1 => exact Kd.C_below hr1 HB.out)
     (case side2 => exact hc1)
     rintro e w8 ⟨rfl, hb⟩
     refine ⟨_, rfl, ?_⟩
     replace BKa := Aside0.mk (blk_below (upK BKa.out) hb)
     replace BKc := Aside0.mk (blk_below (upK BKc.out) hb)
     replace HB := Aside0.mk (below_step (upB2 HB.out GEa.out GEc.out) hb)
     clear hb
     refine hK.out _ _ ⟨(blk_cell BKa.out 0).trans rfl, (blk_cell BKc.out 0).trans rfl, (HB.out.cell (World.block_lt_of_cell? w _ hx0)).trans hx0, (HB.out.cell (World.block_lt_of_cell? w _ hx1)).trans hx1⟩ (fun hHeld => ?_)
     clear hK K
     refine nM 13 ?_; refine pM 6 14 HT_.out ?_; refine pM 7 15 HT_.out ?_; refine pM 8 16 HT_.out ?_; refine pM 9 17 HT_.out ?_; refine pM 14 22 HT_.out ?_; refine tM 10 18 HT_.out HW_.out hHeld ?_; refine pM 11 19 HT_.out ?_; refine tM 12 20 HT_.out HW_.out hHeld ?_; refine pM 13 21 HT_.out ?_; refine tM 15 23 HT_.out HW_.out hHeld ?_; refine pM 16 24 HT_.out ?_; refine tM 17 25 HT_.out HW_.out hHeld ?_; refine pM 18 26 HT_.out ?_; refine pM 19 27 HT_.out ?_; refine pM 20 28 HT_.out ?_
     refine done_ (done_of HT_.out (by kernel_rfl)) ?_
     clear hHeld HT_ HW_
     cases xb with
     | true =>
      rw [if_neg (bne_iff_ne.mp hxb)] at H
      obtain ⟨rfl, hq⟩ := Prod.mk.inj (Option.some.inj H)
      obtain ⟨rfl, rfl⟩ := Prod.mk.inj hq
      go_wp2
      refine bodyPost_ret (results_tmp3 rfl _ _ _) rfl ⟨_, rfl, Kd.R_nil _ _ _ _ _, upB2 HB.out GEa.out GEc.out⟩
     | false =>
      rw [if_pos (bne_eq_false_iff_eq.mp hxb)] at H
      obtain ⟨⟨q1, q2⟩, hq, H⟩ := Option.bind_eq_some_iff.mp H
      obtain ⟨rfl, hr⟩ := Prod.mk.inj (Option.some.inj H)
      obtain ⟨rfl, rfl⟩ := Prod.mk.inj hr
      have hl0 := hr0.2.1
      have hwl : wrap64 ((l0.length : Int) - 1) = (l0.length : Int) - 1 := by unfold wrap64; omega
      have hca := (cells1 BKa.out).1
      have hcc := (cells1 BKc.out).1
      go_wp2_with (first
       | ((with_reducible refine gate_dst (N := 32) rfl ?_); refine box_event ?hg (N := 32) ?hd (cs := #[.slice (some ad0) l0.length c0, .slice (some ad1) l1.length c1, .int .i64 0, .slice none 0 0]) (t := 97) ?hr ?_; (case hd => rfl); (case hg => rfl); (case hr => first | (go_simp; done) | (go_simp; rfl)); intro gw hgw w9 hbox hb; have GEw : w.heap.size ≤ gw := (by rw [hgw]; exact (below_size (upB2 HB.out GEa.out GEc.out))); replace HB := Aside0.mk (below_step (upB2 HB.out GEa.out GEc.out) hb); replace BKa := Aside0.mk (blk_below (upK BKa.out) hb); clear hb hgw hca hcc; have hJ : tree_Diff.J w gw (.slice (some ad0) l0.length c0) (.slice (some ad1) l1.length c1) 0 [] w9 := ⟨⟨_, hbox, World.ownsRow_nil _ _ _ _⟩, HB.out⟩; have hca := (cells1 BKa.out).1)
       | (refine (tree_Diff.down w gw (some ad0) c0 l0 (some ad1) c1 l1 GEw hr0 hr1 k 0 [] ((l0.length : Int) - 1) 0 q1 q2 _ hJ hq).mono ?_; rintro e w10 ⟨rfl, hJ10⟩))
      obtain ⟨⟨v, hblk, hrow⟩, hbel⟩ := hJ10
      clear hJ hca BKa BKc HB
      obtain ⟨Av, cv, rfl⟩ : ∃ A c, v = .slice A q2.length c := by
       rcases hrow.2 with ⟨rfl, h0⟩ | ⟨g, cap, _, rfl, _⟩
       ·exact ⟨none, 0, by rw [h0]⟩
       ·exact ⟨_, _, rfl⟩
      obtain ⟨k0, k1, k2, k3, f0, f1, f2, f3⟩ := cells4 hblk
      go_quiet (fail)
      go_wp2
      refine bodyPost_ret (results_tmp3 rfl _ _ _) rfl ⟨_, rfl, ⟨fun _ _ => trivial, _, hrow, tree_Diff.reps _ _ _ _⟩, pw_below_drewN hbel _⟩
    ·rw [if_neg e3] at H
     exact absurd H (by simp)
   ·rw [if_neg e2] at H
    exact absurd H (by simp)
  ·rw [if_neg e1] at H
   have e1b : (t1 != 0) = true := bne_iff_ne.mpr e1
   obtain ⟨rfl, hq⟩ := Prod.mk.inj (Option.some.inj H)
   obtain ⟨rfl, rfl⟩ := Prod.mk.inj hq
   refine start_ (n := 21) (S := fun w' => w'.cell? ⟨ga, 0, none⟩ = some (.slice A0 l0.length c0) ∧ w'.cell? ⟨gc, 0, none⟩ = some (.slice A1 l1.length c1)) (ds := []) (Array.replicate 21 false) (by kernel_rfl) rfl rfl ⟨(blk_cell BKa.out 0).trans rfl, (blk_cell BKc.out 0).trans rfl⟩ (fun hHeld => ?_)
   refine with_tabW tree_Diff.tab1 tree_Diff.bits1 (fun HT_ HW_ => ?_)
   generalize w5.drew = w6 at BKa BKc HB hHeld ⊢
   refine tM 0 8 HT_.out HW_.out hHeld ?_
   refine oM 1 9 HT_.out (fun K hK => ?_)
   refine gM Try.func32 #[.agg #[.slice A0 l0.length c0]] ?_
   with_reducible refine (tree_Check.calls k _ _ l0 t0 _ ?side1 ?side2 hA0).mono ?_
   (case side1 => exact Kd.C_below hr0 HB.out)
   (case side2 => exact hc0)
   rintro e w7 ⟨rfl, hb⟩
   refine ⟨_, rfl, ?_⟩
   replace BKa := Aside0.mk (blk_below (upK BKa.out) hb)
   replace BKc := Aside0.mk (blk_below (upK BKc.out) hb)
   replace HB := Aside0.mk (below_step (upB2 HB.out GEa.out GEc.out) hb)
   clear hb
   refine hK.out _ _ ⟨(blk_cell BKa.out 0).trans rfl, (blk_cell BKc.out 0).trans rfl⟩ (fun hHeld => ?_)
   clear hK K
   refine nM 9 ?_; refine pM 2 10 HT_.out ?_; refine pM 3 11 HT_.out ?_; refine tM 4 12 HT_.out HW_.out hHeld ?_
   refine oM 5 13 HT_.out (fun K hK => ?_)
   refine gM Try.func32 #[.agg #[.slice A1 l1.length c1]] ?_
   with_reducible refine (tree_Check.calls k _ _ l1 t1 _ ?side1 ?side2 hA1).mono ?_
   (case side1 => exact Kd.C_below hr1 HB.out)
   (case side2 => exact hc1)
   rintro e w8 ⟨rfl, hb⟩
   refine ⟨_, rfl, ?_⟩
   replace BKa := Aside0.mk (blk_below (upK BKa.out) hb)
   replace BKc := Aside0.mk (blk_below (upK BKc.out) hb)
   replace HB := Aside0.mk (below_step (upB2 HB.out GEa.out GEc.out) hb)
   clear hb
   refine hK.out _ _ ⟨(blk_cell BKa.out 0).trans rfl, (blk_cell BKc.out 0).trans rfl⟩ (fun hHeld => ?_)
   clear hK K
   refine nM 13 ?_; refine pM 6 14 HT_.out ?_; refine pM 7 15 HT_.out ?_; refine pM 8 16 HT_.out ?_; refine uM 9 17 HT_.out ?_; refine uM 10 18 HT_.out ?_; refine uM 11 19 HT_.out ?_; refine uM 12 20 HT_.out ?_; refine uM 13 21 HT_.out ?_; refine uM 14 22 HT_.out ?_; refine uM 15 23 HT_.out ?_; refine uM 16 24 HT_.out ?_; refine uM 17 25 HT_.out ?_; refine uM 18 26 HT_.out ?_; refine uM 19 27 HT_.out ?_; refine pM 20 28 HT_.out ?_
   refine done_ (done_of HT_.out (by kernel_rfl)) ?_
   go_wp2
   refine bodyPost_ret (results_tmp3 rfl _ _ _) rfl ⟨_, rfl, Kd.R_nil _ _ _ _ _, upB2 HB.out GEa.out GEc.out⟩
 ·rw [if_neg e0] at H
  have e0b : (t0 != 0) = true := bne_iff_ne.mpr e0
  obtain ⟨rfl, hq⟩ := Prod.mk.inj (Option.some.inj H)
  obtain ⟨rfl, rfl⟩ := Prod.mk.inj hq
  refine start_ (n := 21) (S := fun w' => w'.cell? ⟨ga, 0, none⟩ = some (.slice A0 l0.length c0) ∧ w'.cell? ⟨gc, 0, none⟩ = some (.slice A1 l1.length c1)) (ds := []) (Array.replicate 21 false) (by kernel_rfl) rfl rfl ⟨(blk_cell BKa.out 0).trans rfl, (blk_cell BKc.out 0).trans rfl⟩ (fun hHeld => ?_)
  refine with_tabW tree_Diff.tab1 tree_Diff.bits1 (fun HT_ HW_ => ?_)
  generalize w5.drew = w6 at BKa BKc HB hHeld ⊢
  refine tM 0 8 HT_.out HW_.out hHeld ?_
  refine oM 1 9 HT_.out (fun K hK => ?_)
  refine gM Try.func32 #[.agg #[.slice A0 l0.length c0]] ?_
  with_reducible refine (tree_Check.calls k _ _ l0 t0 _ ?side1 ?side2 hA0).mono ?_
  (case side1 => exact Kd.C_below hr0 HB.out)
  (case side2 => exact hc0)
  rintro e w7 ⟨rfl, hb⟩
  refine ⟨_, rfl, ?_⟩
  replace BKa := Aside0.mk (blk_below (upK BKa.out) hb)
  replace BKc := Aside0.mk (blk_below (upK BKc.out) hb)
  replace HB := Aside0.mk (below_step (upB2 HB.out GEa.out GEc.out) hb)
  clear hb
  refine hK.out _ _ ⟨(blk_cell BKa.out 0).trans rfl, (blk_cell BKc.out 0).trans rfl⟩ (fun hHeld => ?_)
  clear hK K
  refine nM 9 ?_; refine pM 2 10 HT_.out ?_; refine pM 3 11 HT_.out ?_; refine uM 4 12 HT_.out ?_; refine uM 5 13 HT_.out ?_; refine uM 6 14 HT_.out ?_; refine pM 7 15 HT_.out ?_; refine pM 8 16 HT_.out ?_; refine uM 9 17 HT_.out ?_; refine uM 10 18 HT_.out ?_; refine uM 11 19 HT_.out ?_; refine uM 12 20 HT_.out ?_; refine uM 13 21 HT_.out ?_; refine uM 14 22 HT_.out ?_; refine uM 15 23 HT_.out ?_; refine uM 16 24 HT_.out ?_; refine uM 17 25 HT_.out ?_; refine uM 18 26 HT_.out ?_; refine uM 19 27 HT_.out ?_; refine pM 20 28 HT_.out ?_
  refine done_ (done_of HT_.out (by kernel_rfl)) ?_
  go_wp2
  refine bodyPost_ret (results_tmp3 rfl _ _ _) rfl ⟨_, rfl, Kd.R_nil _ _ _ _ _, upB2 HB.out GEa.out GEc.out⟩

end Go.Proofs.Ytbmmddngadnofaa.F
