-- Written by ext (this session's own program).
-- in short rows (short.py)
import Derived.Test.YtbmmddngadnofaaFx0
import Derived.Test.YtbmmddngadnofaaFx43
import Derived.Test.YtbmmddngadnofaaFx44
import Derived.Test.YtbmmddngadnofaaFx45
import Derived.Test.YtbmmddngadnofaaFx46
import Derived.RangeFuncNested
import Derived.RangeFuncBox
import Derived.Shelf.Abstract
import Derived.OwnWalkIn
import Derived.TacticsInMore
import Derived.LoopNIn
import Derived.LoopIn
import Derived.Maps.AppendAt
import Derived.Deep.QuietTactic
import Derived.BigQuiet
import Derived.Laws.Cover3
import Derived.Laws.CopyRow
import Derived.Maps.Own
import Derived.Maps.OwnSet
namespace Go.Proofs.Ytbmmddngadnofaa.F
open Go.RowKit Go.Proofs.YtbmmddngadnofaaW.PrintWords Go.Proofs.YtbmmddngadnofaaW.PrintLast Go.Proofs.YtbmmddngadnofaaW.PrintMore
attribute [local go_sem] max2_int min2_int max_two min_two max_three min_three max_four min_four   -- for this text's walks alone
set_option linter.unusedVariables false
set_option linter.unusedSimpArgs false

/-! ### machine_Load: function 59 -/
open Go.Shelf
open Go.Maps

theorem volume_Load.wrapN (n : Nat) (h : n < 2 ^ 62) : wrap64 (n : Int) = (n : Int) := by unfold wrap64; omega
theorem volume_Load.ne {w : World} {g g' : Nat} {t t' : TypeId} {cs cs' : Array Value} (h : w.heap[g]? = some (.cells cs t (0, 0))) (h' : w.heap[g']? = some (.cells cs' t' (0, 0))) (hne : t ≠ t') : g ≠ g' := by
 rintro rfl
 have e := Option.some.inj (h.symm.trans h')
 injection e with _ e2
 exact hne e2
/-- A volume: its shape, its bytes' and versions' rows, as blocks of its own. -/
structure volume_Load.Vol (w0 : World) (g : Nat) (bl sz : Nat) (last : Int) (bb vb : Nat) (W : World) : Prop where
 blk : W.heap[g]? = some (.cells #[.int .i64 bl, .int .i64 sz, .slice (some ⟨bb, 0, none⟩) (bl * sz) (bl * sz), .slice (some ⟨vb, 0, none⟩) bl bl, .int .i64 last] 144 (0, 0))
 bytes : ∃ cs : Array Value, W.heap[bb]? = some (.cells cs 5 (0, 0)) ∧ cs.size = bl * sz
 vers : ∃ cs : Array Value, W.heap[vb]? = some (.cells cs 3 (0, 0)) ∧ cs.size = bl
 own : w0.heap.size ≤ g ∧ w0.heap.size ≤ bb ∧ w0.heap.size ≤ vb
 below : Below w0.heap.size w0 W
theorem volume_Load.Vol.drewN {w0 W : World} {g bl sz bb vb : Nat} {last : Int} (h : volume_Load.Vol w0 g bl sz last bb vb W) (n : Nat) : volume_Load.Vol w0 g bl sz last bb vb (W.drewN n) :=
 ⟨h.blk, h.bytes, h.vers, h.own, pw_below_drewN h.below n⟩
set_option maxHeartbeats 8000000 in
set_option maxRecDepth 100000 in
theorem volume_Load.made (w0 W : World) (g bl sz bb vb : Nat) (last : Int) (h : volume_Load.Vol w0 g bl sz last bb vb W) :
  Calls Try.prog 92 #[.pointer (some ⟨g, 0, none⟩)] W fun e W' => e = .returned (.bool true) ∧ W' = W := by
 obtain ⟨hb, _, _, _, _⟩ := h
 obtain ⟨k0, k1, k2, k3, k4, f0, f1, f2, f3, f4⟩ := cells5 hb
 have hq := fun (w : World) => run_neq_slice_nil (P := Try.prog) w 37 5 (some ⟨bb, 0, none⟩) (bl * sz) (bl * sz) Try.underlying37
 go_enter Try.func92, Try.ntmps92
 go_wp2
 go_ret
 exact ⟨rfl, rfl⟩
set_option maxHeartbeats 8000000 in
set_option maxRecDepth 100000 in
theorem volume_Load.at (w0 W : World) (g bl sz bb vb : Nat) (last : Int) (m : Nat) (h : volume_Load.Vol w0 g bl sz last bb vb W) (h1 : m < bl) (hbl : bl ≤ 4096) (hsz : 1 ≤ sz ∧ sz ≤ 4096) :
  Calls Try.prog 94 #[.pointer (some ⟨g, 0, none⟩), .int .i64 (m : Int), .int .i64 1] W fun e W' => e = .returned (.slice (some ⟨bb, m * sz, none⟩) sz sz) ∧ ∃ n, W' = W.drewN n := by
 obtain ⟨hb, _, _, _, _⟩ := h
 obtain ⟨k0, k1, k2, k3, k4, f0, f1, f2, f3, f4⟩ := cells5 hb
 have q1 : (m + 1) * sz ≤ bl * sz := Nat.mul_le_mul_right _ h1
 have q2 : bl * sz ≤ 4096 * 4096 := Nat.mul_le_mul hbl hsz.2
 rw [Nat.add_mul, Nat.one_mul] at q1
 obtain ⟨N, hN⟩ : ∃ N : Nat, bl * sz = N := ⟨_, rfl⟩
 obtain ⟨fr, hfr⟩ : ∃ fr : Nat, m * sz = fr := ⟨_, rfl⟩
 rw [hN] at q1 q2
 rw [hfr] at q1
 have e0 : wrap64 ((m : Int) + 1) = (m : Int) + 1 := volume_Load.wrapN (m + 1) (by omega)
 have e1 : wrap64 ((m : Int) * (sz : Int)) = (fr : Int) := by rw [← Int.natCast_mul, hfr]; exact volume_Load.wrapN fr (by clear e0; omega)
 have e2 : wrap64 (((m : Int) + 1) * (sz : Int)) = ((fr + sz : Nat) : Int) := by
  rw [show ((m : Int) + 1) = ((m + 1 : Nat) : Int) from rfl, ← Int.natCast_mul, Nat.add_mul, Nat.one_mul, hfr]; exact volume_Load.wrapN (fr + sz) (by clear e0 e1; omega)
 rw [hN] at k2
 rw [hfr]
 clear hb hN hfr
 obtain ⟨hi, hto⟩ : ∃ hi : Nat, fr + sz = hi := ⟨_, rfl⟩
 rw [hto] at e2 q1
 have ⟨b1, b2, b3, b4, b5, b6, b7⟩ : decide ((fr : Int) ≤ (hi : Int)) = true ∧ fr ≤ hi ∧ hi ≤ N ∧ hi - fr = sz ∧ (hi = fr) = False ∧ (fr = hi) = False ∧ (N = fr) = False := by
  clear e0 e1 e2 k0 k1 k2 k3 k4 f0 f1 f2 f3 f4
  refine ⟨decide_eq_true (by omega), by omega, by omega, by omega, eq_false (by omega), eq_false (by omega), eq_false (by omega)⟩
 obtain ⟨i0, hi0, hz0, hz1, hz2⟩ := info_parts info5
 replace e0 : True → wrap64 ((m : Int) + 1) = (m : Int) + 1 := fun _ => e0
 replace e1 : True → wrap64 ((m : Int) * (sz : Int)) = (fr : Int) := fun _ => e1
 replace e2 : True → wrap64 (((m : Int) + 1) * (sz : Int)) = (hi : Int) := fun _ => e2
 go_enter Try.func94, Try.ntmps94
 go_wp2
 go_quiet (fail)
 go_wp2
 go_ret
 exact ⟨rfl, nq, rfl⟩
theorem volume_Load.Vol.set {w0 W : World} {g bl sz bb vb : Nat} {last : Int} (h : volume_Load.Vol w0 g bl sz last bb vb W) (x : Int) : volume_Load.Vol w0 g bl sz x bb vb (W.setCell ⟨g, 4, none⟩ (.int .i64 x)) := by
 obtain ⟨h1, ⟨cb, h2, h2s⟩, ⟨cv, h3, h3s⟩, h4, h5⟩ := h
 exact ⟨blk_set h1 4 _, ⟨cb, blk_far h2 (volume_Load.ne h1 h2 (by decide)).symm _, h2s⟩, ⟨cv, blk_far h3 (volume_Load.ne h1 h3 (by decide)).symm _, h3s⟩, h4, h5.setCell (p := ⟨g, 4, none⟩) h4.1 _⟩
theorem volume_Load.Vol.stamped {w0 W : World} {g bl sz bb vb : Nat} {last : Int} (h : volume_Load.Vol w0 g bl sz last bb vb W) (i : Nat) (x : Value) : volume_Load.Vol w0 g bl sz last bb vb (W.setCell ⟨vb, i, none⟩ x) := by
 obtain ⟨h1, ⟨cb, h2, h2s⟩, ⟨cv, h3, h3s⟩, h4, h5⟩ := h
 exact ⟨blk_far h1 (volume_Load.ne h1 h3 (by decide)) _, ⟨cb, blk_far h2 (volume_Load.ne h2 h3 (by decide)) _, h2s⟩, ⟨_, blk_set h3 i _, by rw [Array.size_setIfInBounds]; exact h3s⟩, h4, h5.setCell (p := ⟨vb, i, none⟩) h4.2.2 _⟩
set_option maxHeartbeats 8000000 in
set_option maxRecDepth 100000 in
theorem volume_Load.stamp (w0 W : World) (g bl sz bb vb : Nat) (last x : Int) (m : Nat) (h : volume_Load.Vol w0 g bl sz last bb vb W) (h1 : m < bl) (hbl : bl ≤ 4096) :
  Calls Try.prog 95 #[.pointer (some ⟨g, 0, none⟩), .int .i64 (m : Int), .int .i64 1, .int .i64 x] W fun e W' => e = .returned (.tuple #[]) ∧ volume_Load.Vol w0 g bl sz last bb vb W' := by
 go_enter Try.func95, Try.ntmps95
 go_wp2
 go_loopw [10] (fun q wr => ∃ n : Nat, q = .int .i64 (n : Int) ∧ n ≤ 1 ∧ volume_Load.Vol w0 g bl sz last bb vb wr) (fun q wr => 1 - (intOf q).toNat)
 case atStart => exact ⟨0, rfl, by omega, h⟩
 case round =>
  obtain ⟨n, rfl, hn, hv⟩ := hrel
  obtain ⟨k0, k1, k2, k3, k4, f0, f1, f2, f3, f4⟩ := cells5 hv.blk
  obtain ⟨cv, hcv, hcs⟩ := hv.vers
  by_cases e : n = 0
  ·subst e
   have hc := blk_cell hcv m
   rw [Array.getElem?_eq_getElem (by omega)] at hc
   have hf := blk_frozen hcv m
   go_wp2
   exact ⟨⟨1, rfl, by omega, hv.stamped m _⟩, by simp only [intOf]; decide⟩
  ·obtain rfl : n = 1 := by omega
   go_wp2
   go_end0
   exact ⟨rfl, hv⟩
theorem volume_Load.Vol.grow {w0 W W1 : World} {g bl sz bb vb : Nat} {last : Int} (h : volume_Load.Vol w0 g bl sz last bb vb W) (hb : Below W.heap.size W W1) : volume_Load.Vol w0 g bl sz last bb vb W1 := by
 obtain ⟨h1, ⟨cb, h2, h2s⟩, ⟨cv, h3, h3s⟩, h4, h5⟩ := h
 exact ⟨blk_below h1 hb, ⟨cb, blk_below h2 hb, h2s⟩, ⟨cv, blk_below h3 hb, h3s⟩, h4, below_step h5 hb⟩
theorem volume_Load.cells1' {w : World} {g : Nat} {t : TypeId} {a : Value} (h : w.heap[g]? = some (.cells #[a] t (0, 0))) : w.cell? ⟨g, 0, none⟩ = some a ∧ w.frozen? ⟨g, 0, none⟩ = false := ⟨blk_cell h 0, blk_frozen h 0⟩
theorem volume_Load.cells3' {w : World} {g : Nat} {t : TypeId} {a b c : Value} (h : w.heap[g]? = some (.cells #[a, b, c] t (0, 0))) : w.cell? ⟨g, 0, none⟩ = some a ∧ w.cell? ⟨g, 1, none⟩ = some b ∧ w.cell? ⟨g, 2, none⟩ = some c := ⟨blk_cell h 0, blk_cell h 1, blk_cell h 2⟩
theorem volume_Load.laid1_end {w0 W : World} {g bl sz bb vb gl gv : Nat} {last : Int} {p : Value} (h : volume_Load.Vol w0 g bl sz last bb vb W) {a : Value} (hl : W.heap[gl]? = some (.cells #[a] 3 (0, 0))) (hv : W.heap[gv]? = some (.cells #[p] 125 (0, 0))) (hw : w0.heap.size ≤ gl) (hne : gl ≠ vb) (n : Nat) (u : Value) :
  volume_Load.Vol w0 g bl sz last bb vb ((W.drewN n).setCell ⟨gl, 0, none⟩ u) ∧ ((W.drewN n).setCell ⟨gl, 0, none⟩ u).heap[gl]? = some (.cells #[u] 3 (0, 0)) ∧ ((W.drewN n).setCell ⟨gl, 0, none⟩ u).heap[gv]? = some (.cells #[p] 125 (0, 0)) := by
 have hl2 := blk_drewN hl n
 have hv2 := blk_drewN hv n
 refine ⟨?_, blk_set hl2 0 _, blk_far hv2 (volume_Load.ne hv2 hl2 (by decide)) _⟩
 obtain ⟨h1, ⟨cb, h2, h2s⟩, ⟨cv, h3, h3s⟩, h4, h5⟩ := h.drewN n
 exact ⟨blk_far h1 (volume_Load.ne h1 hl2 (by decide)) _, ⟨cb, blk_far h2 (volume_Load.ne h2 hl2 (by decide)) _, h2s⟩, ⟨cv, blk_far h3 hne.symm _, h3s⟩, h4, h5.setCell (p := ⟨gl, 0, none⟩) hw _⟩
def volume_Load.bad (bl sz : Nat) (last : Int) (x : S39) : Bool :=
 if x.f0 ≤ last then true else if (bl : Int) ≤ x.f0 then true else if x.f1 < 1 then true else if 4611686018427387904 < x.f1 then true else decide ((x.f2.length : Int) ≠ sz)
set_option maxHeartbeats 8000000 in
set_option maxRecDepth 100000 in
theorem volume_Load.laid1 (w0 W : World) (x : S39) (A2 : Option Addr) (c2 : Nat) (gl gv g bl sz bb vb : Nat) (last lv : Int) (h : volume_Load.Vol w0 g bl sz last bb vb W)
  (hl : W.heap[gl]? = some (.cells #[.int .i64 lv] 3 (0, 0))) (hv : W.heap[gv]? = some (.cells #[.pointer (some ⟨g, 0, none⟩)] 125 (0, 0))) (hw : w0.heap.size ≤ gl) (hne : gl ≠ vb) :
  Calls Try.prog 99 #[.agg #[.int .i64 x.f0, .int .i64 x.f1, .slice A2 x.f2.length c2], .pointer (some ⟨gl, 0, none⟩), .pointer (some ⟨gv, 0, none⟩)] W fun e W' => e = .returned (.bool (volume_Load.bad bl sz lv x)) ∧
   volume_Load.Vol w0 g bl sz last bb vb W' ∧ W'.heap[gl]? = some (.cells #[.int .i64 x.f0] 3 (0, 0)) ∧ W'.heap[gv]? = some (.cells #[.pointer (some ⟨g, 0, none⟩)] 125 (0, 0)) := by
 go_enter Try.func99, Try.ntmps99
 go_wp2_with (first | ((with_reducible refine gate_dst (N := 3) rfl ?_); refine box_event ?hg (N := 3) ?hd (cs := #[.int .i64 x.f0, .int .i64 x.f1, .slice A2 x.f2.length c2]) (t := 39) ?hr ?_; (case hd => rfl); (case hg => rfl); (case hr => first | (go_simp; done) | (go_simp; rfl)); intro gb hg w3 hbox hb; replace hg := Aside0.mk hg))
 have hV := h.grow hb
 have hl' := blk_below hl hb
 have hv' := blk_below hv hb
 have HV := Aside0.mk hV
 obtain ⟨k0, k1, k2, k3, k4, f0, f1, f2, f3, f4⟩ := cells5 hV.blk
 obtain ⟨kl, kf⟩ := volume_Load.cells1' hl'
 obtain ⟨kv, kvf⟩ := volume_Load.cells1' hv'
 obtain ⟨b0, b1, b2⟩ := volume_Load.cells3' hbox
 have HB := Aside0.mk hb
 have HL := Aside0.mk hl'
 have HVV := Aside0.mk hv'
 clear hbox hb hl' hv' hl hv hV h
 have hbad : ∀ r, volume_Load.bad bl sz lv x = r → Aside0 (volume_Load.bad bl sz lv x = r) := fun _ h => ⟨h⟩
 by_cases c1 : x.f0 ≤ lv
 ·have H := hbad true (by rw [volume_Load.bad, if_pos c1])
  have c1b := decide_eq_true c1
  clear c1 hbad
  go_quiet (fail)
  go_wp2
  go_ret
  exact ⟨by rw [H.out]; rfl, volume_Load.laid1_end HV.out HL.out HVV.out hw hne _ _⟩
 have c1b := decide_eq_false c1
 by_cases c2 : (bl : Int) ≤ x.f0
 ·have H := hbad true (by rw [volume_Load.bad, if_neg c1, if_pos c2])
  have c2b := decide_eq_true c2
  clear c1 c2 hbad
  go_quiet (fail)
  go_wp2
  go_ret
  exact ⟨by rw [H.out]; rfl, volume_Load.laid1_end HV.out HL.out HVV.out hw hne _ _⟩
 have c2b := decide_eq_false c2
 by_cases c3 : x.f1 < 1
 ·have H := hbad true (by rw [volume_Load.bad, if_neg c1, if_neg c2, if_pos c3])
  have c3b := decide_eq_true c3
  clear c1 c2 c3 hbad
  go_quiet (fail)
  go_wp2
  go_ret
  exact ⟨by rw [H.out]; rfl, volume_Load.laid1_end HV.out HL.out HVV.out hw hne _ _⟩
 have c3b := decide_eq_false c3
 by_cases c4 : 4611686018427387904 < x.f1
 ·have H := hbad true (by rw [volume_Load.bad, if_neg c1, if_neg c2, if_neg c3, if_pos c4])
  have c4b := decide_eq_true c4
  clear c1 c2 c3 c4 hbad
  go_quiet (fail)
  go_wp2
  go_ret
  exact ⟨by rw [H.out]; rfl, volume_Load.laid1_end HV.out HL.out HVV.out hw hne _ _⟩
 have c4b := decide_eq_false c4
 by_cases c5 : (x.f2.length : Int) = sz
 ·have H := hbad false (by rw [volume_Load.bad, if_neg c1, if_neg c2, if_neg c3, if_neg c4]; simp [c5])
  have c5b := decide_eq_true c5
  clear c1 c2 c3 c4 hbad
  go_quiet (fail)
  go_wp2
  go_ret
  exact ⟨by rw [H.out]; rfl, volume_Load.laid1_end HV.out HL.out HVV.out hw hne _ _⟩
 ·have H := hbad true (by rw [volume_Load.bad, if_neg c1, if_neg c2, if_neg c3, if_neg c4]; simp [c5])
  have c5b : ((x.f2.length : Int) != (sz : Int)) = true := bne_iff_ne.2 c5
  clear c1 c2 c3 c4 hbad
  go_quiet (fail)
  go_wp2
  go_ret
  exact ⟨by rw [H.out]; rfl, volume_Load.laid1_end HV.out HL.out HVV.out hw hne _ _⟩
def volume_Load.laidAll (bl sz : Nat) : Int → List S39 → Bool
 | _, [] => true
 | last, x :: l => !volume_Load.bad bl sz last x && volume_Load.laidAll bl sz x.f0 l
set_option maxHeartbeats 8000000 in
set_option maxRecDepth 100000 in
theorem volume_Load.index (w0 W : World) (g bl sz bb vb gl gv : Nat) (last : Int) (A : Option Addr) (c : Nat) (l : List S39) (h : volume_Load.Vol w0 g bl sz last bb vb W) (hr : Kd.C k39 w0 A l.length l) (hc : l.length ≤ c) (hlen : l.length < 2 ^ 48)
  (hl : W.heap[gl]? = some (.cells #[.int .i64 (-1)] 3 (0, 0))) (hv : W.heap[gv]? = some (.cells #[.pointer (some ⟨g, 0, none⟩)] 125 (0, 0))) (hw : w0.heap.size ≤ gl) (hne : gl ≠ vb) :
  Calls Try.prog 89 #[.slice A l.length c, .func (.func 99) #[] #[.pointer (some ⟨gl, 0, none⟩), .pointer (some ⟨gv, 0, none⟩)]] W fun e W' => ∃ r : Int, e = .returned (.int .i64 r) ∧ decide (0 ≤ r) = !volume_Load.laidAll bl sz (-1) l ∧ volume_Load.Vol w0 g bl sz last bb vb W' := by
 go_enter Try.func89, Try.ntmps89
 go_wp2
 go_loopw [8] (fun q wr => ∃ (n : Nat) (lv : Int), q = .int .i64 (n : Int) ∧ n ≤ l.length ∧ volume_Load.Vol w0 g bl sz last bb vb wr ∧ wr.heap[gl]? = some (.cells #[.int .i64 lv] 3 (0, 0)) ∧ wr.heap[gv]? = some (.cells #[.pointer (some ⟨g, 0, none⟩)] 125 (0, 0)) ∧ volume_Load.laidAll bl sz (-1) l = volume_Load.laidAll bl sz lv (l.drop n)) (fun q wr => l.length - (intOf q).toNat)
 case atStart => exact ⟨0, -1, rfl, by omega, h, hl, hv, rfl⟩
 case round =>
  obtain ⟨n, lv, rfl, hn, hV, hL, hVV, hS⟩ := hrel
  by_cases e : n < l.length
  ·obtain ⟨ad, A2, c2, eA, h0, h1, h2, hl2, hi2⟩ := at_T39 hr n (by omega) (by omega)
   cases eA
   replace h0 := (hV.below.cell (World.block_lt_of_cell? w0 _ h0)).trans h0
   replace h1 := (hV.below.cell (World.block_lt_of_cell? w0 _ h1)).trans h1
   replace h2 := (hV.below.cell (World.block_lt_of_cell? w0 _ h2)).trans h2
   have hd : l.drop n = rd_T39 l n :: l.drop (n + 1) := by
    rw [List.drop_eq_getElem_cons e, rd_T39, Int.toNat_natCast, List.getD_eq_getElem?_getD, List.getElem?_eq_getElem e, Option.getD_some]
   obtain ⟨x, hx⟩ : ∃ x, rd_T39 l (n : Int) = x := ⟨_, rfl⟩
   rw [hx] at h0 h1 h2 hl2 hi2 hd
   rw [Int.toNat_natCast] at h0 h1 h2
   rw [hd] at hS
   replace hx := Aside0.mk hx
   replace hd := Aside0.mk hd
   replace hS := Aside0.mk hS
   replace hi2 := Aside0.mk hi2
   replace hL := Aside0.mk hL
   replace hVV := Aside0.mk hVV
   have e1 : decide ((n : Int) < (l.length : Int)) = true := decide_eq_true (by omega)
   have e2 : decide (0 ≤ (n : Int)) = true := decide_eq_true (by omega)
   have hlaw := volume_Load.laid1 w0 wr x A2 c2 gl gv g bl sz bb vb last lv hV hL.out hVV.out hw hne
   cases eb : volume_Load.bad bl sz lv x
   ·rw [eb] at hlaw
    go_wp2_with (refine hlaw.mono ?_; rintro _ W5 ⟨rfl, hV5, hL5, hVV5⟩)
    refine ⟨⟨n + 1, x.f0, rfl, by omega, hV5, hL5, hVV5, ?_⟩, ?_⟩
    ·rw [hS.out, volume_Load.laidAll, eb]; rfl
    ·simp only [intOf]; omega
   ·rw [eb] at hlaw
    go_wp2_with (refine hlaw.mono ?_; rintro _ W5 ⟨rfl, hV5, hL5, hVV5⟩)
    go_ret
    exact ⟨n, rfl, by rw [hS.out, volume_Load.laidAll, eb, e2]; rfl, hV5⟩
  ·obtain rfl : n = l.length := by omega
   go_wp2
   rw [List.drop_length] at hS
   go_ret
   exact ⟨-1, rfl, by rw [hS]; rfl, hV⟩
set_option maxHeartbeats 8000000 in
set_option maxRecDepth 100000 in
theorem volume_Load.contains (w0 W : World) (g bl sz bb vb gl gv : Nat) (last : Int) (A : Option Addr) (c : Nat) (l : List S39) (h : volume_Load.Vol w0 g bl sz last bb vb W) (hr : Kd.C k39 w0 A l.length l) (hc : l.length ≤ c) (hlen : l.length < 2 ^ 48)
  (hl : W.heap[gl]? = some (.cells #[.int .i64 (-1)] 3 (0, 0))) (hv : W.heap[gv]? = some (.cells #[.pointer (some ⟨g, 0, none⟩)] 125 (0, 0))) (hw : w0.heap.size ≤ gl) (hne : gl ≠ vb) :
  Calls Try.prog 82 #[.slice A l.length c, .func (.func 99) #[] #[.pointer (some ⟨gl, 0, none⟩), .pointer (some ⟨gv, 0, none⟩)]] W fun e W' => e = .returned (.bool (!volume_Load.laidAll bl sz (-1) l)) ∧ volume_Load.Vol w0 g bl sz last bb vb W' := by
 have hlaw := volume_Load.index w0 W g bl sz bb vb gl gv last A c l h hr hc hlen hl hv hw hne
 clear h hr hc hlen hl hv hw hne
 go_enter Try.func82, Try.ntmps82
 go_wp2_with (refine hlaw.mono ?_; rintro _ W5 ⟨r, rfl, hr5, hV5⟩)
 go_ret
 exact ⟨rfl, hV5⟩
set_option maxHeartbeats 8000000 in
set_option maxRecDepth 100000 in
theorem volume_Load.laid (w0 W : World) (g bl sz bb vb : Nat) (last : Int) (A : Option Addr) (c : Nat) (l : List S39) (h : volume_Load.Vol w0 g bl sz last bb vb W) (hr : Kd.C k39 w0 A l.length l) (hc : l.length ≤ c) (hlen : l.length < 2 ^ 48) :
  Calls Try.prog 93 #[.pointer (some ⟨g, 0, none⟩), .slice A l.length c] W fun e W' => e = .returned (.bool (volume_Load.laidAll bl sz (-1) l)) ∧ volume_Load.Vol w0 g bl sz last bb vb W' := by
 go_enter Try.func93, Try.ntmps93
 go_wp2_with (first
  | ((with_reducible refine gate_dst (N := 2) rfl ?_); refine box_event ?hg (N := 2) ?hd (cs := #[.pointer (some ⟨g, 0, none⟩)]) (t := 125) ?hr ?_; (case hd => rfl); (case hg => rfl); (case hr => first | (go_simp; done) | (go_simp; rfl)); intro gv hg w3 hv hb; replace hg := Aside0.mk hg)
  | (have hV3 := h.grow hb; have hV4 := hV3.grow (below_alloc (Below.refl w3.heap.size w3) (.cells #[.int .i64 (-1)] 3 (0, 0))); refine (volume_Load.contains w0 _ g bl sz bb vb w3.heap.size gv last A c l hV4 hr hc hlen (blk_new _ _) (blk_alloc hv _) (below_size hV3.below) (Nat.ne_of_gt (blk_lt hV3.vers.choose_spec.1))).mono ?_; rintro _ W5 ⟨rfl, hV5⟩))
 go_ret
 exact ⟨rfl, hV5⟩
theorem volume_Load.bad_false {bl sz : Nat} {last : Int} {x : S39} (h : volume_Load.bad bl sz last x = false) : last < x.f0 ∧ x.f0 < bl ∧ 1 ≤ x.f1 ∧ x.f1 ≤ 4611686018427387904 ∧ x.f2.length = sz := by
 unfold volume_Load.bad at h
 by_cases c1 : x.f0 ≤ last
 ·rw [if_pos c1] at h; cases h
 rw [if_neg c1] at h
 by_cases c2 : (bl : Int) ≤ x.f0
 ·rw [if_pos c2] at h; cases h
 rw [if_neg c2] at h
 by_cases c3 : x.f1 < 1
 ·rw [if_pos c3] at h; cases h
 rw [if_neg c3] at h
 by_cases c4 : 4611686018427387904 < x.f1
 ·rw [if_pos c4] at h; cases h
 rw [if_neg c4] at h
 have := of_decide_eq_false h
 omega
def volume_Load.T8 : Bool × List (List Nat × List Nat) := (true, [([], []), ([], []), ([1], [1]), ([0, 2], [0, 2]), ([], []), ([4], [4]), ([3, 5, 3], [3, 5])])
def volume_Load.B8 : List Nat := [0, 0, 2, 7, 0, 16, 63]
theorem volume_Load.tab8 : rtab .any (opsOf Try.f86 8) = volume_Load.T8 := by kernel_rfl
theorem volume_Load.bits8 : waitsOk volume_Load.T8.2 volume_Load.B8 = true := by kernel_rfl
theorem volume_Load.copy_step {P : Program} {ops : Array Oper} {o : Oper} {a : Act} {w w1 : World} {K : Act → World → Prop} {Q : Exit → Act → World → Prop} {E : Prop} {vd vs v : Value} (hw : Region.wanted o (yielded ops a.tmps) = true) (d s : Operand) (dT sT : TypeId)
  (ho : o.op = .call { callee := .builtin .copy, args := #[d, s], argTypes := #[dT, sT] }) (hd : a.eval d = vd) (hs : a.eval s = vs) (hrun : (Builtin.copy_ #[dT, sT] o.type #[vd, vs]).run P w = .ok v w1) (h : K (a.put o.dst v) w1) :
  if Region.wanted o (yielded ops a.tmps) = true then Oper.wp P o a w K Q else E := by
 rw [if_pos hw]
 unfold Oper.wp
 simp [execOp, ho, resolve, invoke, builtin, hd, hs, hrun, Result.andThen]
 exact h
set_option maxHeartbeats 8000000 in
set_option maxRecDepth 100000 in
theorem volume_Load.stamp2 (w0 W : World) (g bl sz bb vb : Nat) (last x : Int) (m gp : Nat) (pc : Array Value) (h : volume_Load.Vol w0 g bl sz last bb vb W) (h1 : m < bl) (hbl : bl ≤ 4096) (hp : W.heap[gp]? = some (.cells pc 39 (0, 0))) :
  Calls Try.prog 95 #[.pointer (some ⟨g, 0, none⟩), .int .i64 (m : Int), .int .i64 1, .int .i64 x] W fun e W' => e = .returned (.tuple #[]) ∧ volume_Load.Vol w0 g bl sz last bb vb W' ∧ W'.heap[gp]? = some (.cells pc 39 (0, 0)) := by
 go_enter Try.func95, Try.ntmps95
 go_wp2
 go_loopw [10] (fun q wr => ∃ n : Nat, q = .int .i64 (n : Int) ∧ n ≤ 1 ∧ volume_Load.Vol w0 g bl sz last bb vb wr ∧ wr.heap[gp]? = some (.cells pc 39 (0, 0))) (fun q wr => 1 - (intOf q).toNat)
 case atStart => exact ⟨0, rfl, by omega, h, hp⟩
 case round =>
  obtain ⟨n, rfl, hn, hv, hq⟩ := hrel
  obtain ⟨k0, k1, k2, k3, k4, f0, f1, f2, f3, f4⟩ := cells5 hv.blk
  obtain ⟨cv, hcv, hcs⟩ := hv.vers
  by_cases e : n = 0
  ·subst e
   have hc := blk_cell hcv m
   rw [Array.getElem?_eq_getElem (by omega)] at hc
   have hf := blk_frozen hcv m
   go_wp2
   exact ⟨⟨1, rfl, by omega, hv.stamped m _, blk_far hq (volume_Load.ne hq hcv (by decide)) _⟩, by simp only [intOf]; decide⟩
  ·obtain rfl : n = 1 := by omega
   go_wp2
   go_end0
   exact ⟨rfl, hv, hq⟩
theorem volume_Load.tab10 : rtab .any (opsOf Try.f86 10) = rtab .any (opsOf Try.f86 10) := rfl
def volume_Load.B10 : List Nat := [0, 0, 2, 6, 14, 0, 32, 126, 255, 511, 1023]
theorem volume_Load.bits10 : waitsOk (rtab .any (opsOf Try.f86 10)).2 volume_Load.B10 = true := by kernel_rfl
theorem volume_Load.cellsOf {w W : World} {A : Option Addr} {n : Nat} {xs : List Int} (h : (Kd.int .u8).C w A n xs) (hb : Below w.heap.size w W) (hn : 0 < n) : ∃ ad, A = some ad ∧ ∀ j v, (xs.map (Value.int .u8))[j]? = some v → W.cell? (ad.add j) = some v := by
 obtain ⟨ad, hA, _⟩ := Kd.at_int h 0 (by omega) (by omega)
 refine ⟨ad, hA, fun j v hj => ?_⟩
 rw [List.getElem?_map] at hj
 obtain ⟨y, hy, rfl⟩ := Option.map_eq_some_iff.1 hj
 have hl := (List.getElem?_eq_some_iff.1 hy).1
 have hlen : xs.length = n := h.1
 obtain ⟨ad', hA', hc⟩ := Kd.at_int h j (by omega) (by omega)
 cases hA.symm.trans hA'
 rw [Int.toNat_natCast] at hc
 have e : rd xs (j : Int) = y := by simp [rd, hy]
 rw [e] at hc
 exact (hb.cell (World.block_lt_of_cell? w _ hc)).trans hc
theorem volume_Load.Vol.copied {w0 W : World} {g bl sz bb vb : Nat} {last : Int} (h : volume_Load.Vol w0 g bl sz last bb vb W) (cs : Array Value) (hc : cs.size = bl * sz) : volume_Load.Vol w0 g bl sz last bb vb (W.setRow bb cs) := by
 obtain ⟨h1, ⟨cb, h2, h2s⟩, ⟨cv, h3, h3s⟩, h4, h5⟩ := h
 refine ⟨(setRow_other _ _ _ _ (volume_Load.ne h1 h2 (by decide))).trans h1, ⟨cs, setRow_heap _ _ _ _ _ _ h2, hc⟩, ⟨cv, (setRow_other _ _ _ _ (volume_Load.ne h3 h2 (by decide))).trans h3, h3s⟩, h4, ?_⟩
 exact h5.trans ⟨rfl, rfl, rfl, by simp [World.setRow], fun k hk => setRow_other _ _ _ _ (by have := h4.2.1; omega)⟩
set_option maxHeartbeats 8000000 in
set_option maxRecDepth 100000 in
theorem volume_Load.patch (w0 W : World) (g bl sz bb vb : Nat) (last : Int) (A : Option Addr) (c : Nat) (l : List S39) (h : volume_Load.Vol w0 g bl sz last bb vb W) (hr : Kd.C k39 w0 A l.length l) (hc : l.length ≤ c) (hlen : l.length < 2 ^ 48)
  (hbl : bl ≤ 4096) (hsz : 1 ≤ sz ∧ sz ≤ 4096) :
  Calls Try.prog 86 #[.pointer (some ⟨g, 0, none⟩), .slice A l.length c] W fun e W' => e = .returned (.int .i64 (if volume_Load.laidAll bl sz (-1) l = true then 0 else 50)) ∧ ∃ last', volume_Load.Vol w0 g bl sz last' bb vb W' := by
 have hmade := fun W h => volume_Load.made w0 W g bl sz bb vb last h
 have hlaid := fun W h => volume_Load.laid w0 W g bl sz bb vb last A c l h hr hc hlen
 cases eb : volume_Load.laidAll bl sz (-1) l
 ·rw [eb] at hlaid
  rw [if_neg (by decide)]
  go_enter Try.func86, Try.ntmps86
  go_wp2_with (first
   | (refine (hmade _ h).mono ?_; rintro _ _ ⟨rfl, rfl⟩)
   | (refine (hlaid _ h).mono ?_; rintro _ W2 ⟨rfl, h2⟩))
  go_ret
  exact ⟨rfl, _, h2⟩
 ·rw [eb] at hlaid
  rw [if_pos rfl]
  go_enter Try.func86, Try.ntmps86
  go_wp2_with (first
   | (refine (hmade _ h).mono ?_; rintro _ _ ⟨rfl, rfl⟩)
   | (refine (hlaid _ h).mono ?_; rintro _ W2 ⟨rfl, h2⟩))
  go_loopw [16] (fun q wr => ∃ (n : Nat) (lv last' : Int), q = .int .i64 (n : Int) ∧ n ≤ l.length ∧ -1 ≤ lv ∧ volume_Load.Vol w0 g bl sz last' bb vb wr ∧ volume_Load.laidAll bl sz lv (l.drop n) = true) (fun q wr => l.length - (intOf q).toNat)
  case atStart => exact ⟨0, -1, last, rfl, by omega, by omega, h2, eb⟩
  case round =>
   obtain ⟨n, lv, last', rfl, hn, hlv, hV, hS⟩ := hrel
   clear h h2 hmade hlaid eb
   by_cases e : n < l.length
   ·obtain ⟨ad, A2, c2, eA, h0, h1, h2, hl2, hi2⟩ := at_T39 hr n (by omega) (by omega)
    cases eA
    replace h0 := (hV.below.cell (World.block_lt_of_cell? w0 _ h0)).trans h0
    replace h1 := (hV.below.cell (World.block_lt_of_cell? w0 _ h1)).trans h1
    replace h2 := (hV.below.cell (World.block_lt_of_cell? w0 _ h2)).trans h2
    have hd : l.drop n = rd_T39 l n :: l.drop (n + 1) := by
     rw [List.drop_eq_getElem_cons e, rd_T39, Int.toNat_natCast, List.getD_eq_getElem?_getD, List.getElem?_eq_getElem e, Option.getD_some]
    obtain ⟨x, hx⟩ : ∃ x, rd_T39 l (n : Int) = x := ⟨_, rfl⟩
    rw [hx] at h0 h1 h2 hl2 hi2 hd
    rw [Int.toNat_natCast] at h0 h1 h2
    rw [hd, volume_Load.laidAll] at hS
    have hb : volume_Load.bad bl sz lv x = false := by
     cases hq : volume_Load.bad bl sz lv x
     ·rfl
     ·rw [hq] at hS; cases hS
    rw [hb] at hS
    replace hS := Aside0.mk (show volume_Load.laidAll bl sz x.f0 (l.drop (n + 1)) = true from hS)
    have hB := Aside0.mk (volume_Load.bad_false hb)
    clear hb hd hx
    replace hi2 := Aside0.mk hi2
    have e1 : decide ((n : Int) < (l.length : Int)) = true := decide_eq_true (by omega)
    have e2 : decide (0 ≤ (n : Int)) = true := decide_eq_true (by omega)
    go_wp2
    have hbx := blk_new wr (.cells #[.int .i64 x.f0, .int .i64 x.f1, .slice A2 x.f2.length c2] 39 (0, 0))
    have hV3 := hV.grow (below_alloc (Below.refl wr.heap.size wr) (.cells #[.int .i64 x.f0, .int .i64 x.f1, .slice A2 x.f2.length c2] 39 (0, 0)))
    have hown := Aside0.mk (below_size hV.below)
    generalize wr.alloc (.cells #[.int .i64 x.f0, .int .i64 x.f1, .slice A2 x.f2.length c2] 39 (0, 0)) = W3 at hbx hV3 ⊢
    generalize wr.heap.size = gp at hbx hown ⊢
    clear hV h0 h1 h2
    refine start_ (n := 7) (S := fun w' => w'.cell? ⟨gp, 0, none⟩ = some (.int .i64 x.f0) ∧ w'.cell? ⟨gp, 2, none⟩ = some (.slice A2 x.f2.length c2)) (ds := [6]) (Array.replicate 7 false) (by kernel_rfl) rfl rfl ⟨(blk_cell hbx 0).trans rfl, (blk_cell hbx 2).trans rfl⟩ (fun hHeld => ?_)
    refine with_tabW volume_Load.tab8 volume_Load.bits8 (fun HT_ HW_ => ?_)
    replace hbx := blk_drew hbx
    replace hV3 : volume_Load.Vol w0 g bl sz last' bb vb W3.drew := hV3.drewN 1
    generalize W3.drew = W4 at hbx hV3 hHeld ⊢
    refine pM 0 20 HT_.out ?_; refine pM 1 21 HT_.out ?_; refine pM 4 24 HT_.out ?_; refine tM 2 22 HT_.out HW_.out hHeld ?_; refine tM 5 25 HT_.out HW_.out hHeld ?_
    refine oM 3 23 HT_.out (fun K hK => ?_)
    refine gM Try.func94 #[.pointer (some ⟨g, 0, none⟩), .int .i64 x.f0, .int .i64 1] ?_
    obtain ⟨m, hm⟩ : ∃ m : Nat, x.f0 = m := ⟨x.f0.toNat, by have := hB.out; omega⟩
    have hat := volume_Load.at w0 W4 g bl sz bb vb last' m hV3 (by have := hB.out; omega) hbl hsz
    rw [← hm] at hat
    refine hat.mono ?_
    rintro e w29 ⟨rfl, nq, rfl⟩
    refine ⟨_, rfl, ?_⟩
    replace hbx := blk_drewN hbx nq
    replace hV3 := hV3.drewN nq
    generalize W4.drewN nq = W5 at hbx hV3 ⊢
    refine hK.out _ _ ⟨(blk_cell hbx 0).trans rfl, (blk_cell hbx 2).trans rfl⟩ (fun hHeld => ?_)
    clear hK K
    refine nM 23 ?_
    refine last_ (i := 6) (N := some 26) #[true, true, true, true, true, true, true] rfl rfl (one_of HT_.out (by kernel_rfl)) (by decide) (fun K hK => ?_)
    obtain ⟨cb, hcb, hcbs⟩ := hV3.bytes
    obtain ⟨ad2, eA2, hsrc⟩ := volume_Load.cellsOf hi2.out hV3.below (by have := hB.out; omega)
    obtain ⟨i0, hi0, hz0, hz1, hz2⟩ := info_parts info5
    have hfit : m * sz + sz ≤ bl * sz := by
     have := Nat.mul_le_mul_right sz (show m + 1 ≤ bl by have := hB.out; omega)
     rw [Nat.add_mul, Nat.one_mul] at this
     exact this
    have hl5 : x.f2.length = sz := hB.out.2.2.2.2
    have hrun := run_copy_row (P := Try.prog) W5 37 37 3 5 bb (m * sz) sz sz ad2 x.f2.length c2 cb 5 (x.f2.map (Value.int .u8)) Try.underlying37 (by rw [hi0]; exact congrArg some hz1) hcb (by rw [List.length_map, hl5]; exact (Nat.min_self _).symm) hsrc (by rw [List.length_map, hl5, hcbs]; exact hfit) (fun v hv => by obtain ⟨y, _, rfl⟩ := List.mem_map.1 hv; rfl)
    have hV6 := hV3.copied (cb.toList.take (m * sz) ++ x.f2.map (Value.int .u8) ++ cb.toList.drop (m * sz + (x.f2.map (Value.int .u8)).length)).toArray (by
     simp only [List.size_toArray, List.length_append, List.length_take, List.length_drop, Array.length_toList, List.length_map, hl5, hcbs]
     generalize bl * sz = N at hfit ⊢
     generalize m * sz = M at hfit ⊢
     omega)
    have hbx6 := (setRow_other W5 bb gp (cb.toList.take (m * sz) ++ x.f2.map (Value.int .u8) ++ cb.toList.drop (m * sz + (x.f2.map (Value.int .u8)).length)).toArray (volume_Load.ne hbx hcb (by decide))).trans hbx
    subst eA2
    refine volume_Load.copy_step (by rfl) (.tmp 23) (.tmp 25) 37 37 rfl rfl rfl hrun ?_
    refine hK.out _ _ ?_
    clear hK K
    generalize W5.setRow bb (cb.toList.take (m * sz) ++ x.f2.map (Value.int .u8) ++ cb.toList.drop (m * sz + (x.f2.map (Value.int .u8)).length)).toArray = W6 at hV6 hbx6 ⊢
    clear hbx hV3 hcb hcbs hrun hsrc hHeld
    refine done_ (done_of HT_.out (by kernel_rfl)) ?_
    have hst := volume_Load.stamp2 w0 W6 g bl sz bb vb last' x.f1 m gp _ hV6 (by have := hB.out; omega) hbl hbx6
    rw [← hm] at hst
    obtain ⟨b0, b1, b2⟩ := volume_Load.cells3' hbx6
    replace hm := Aside0.mk hm
    replace hl5 := Aside0.mk hl5
    replace hfit := Aside0.mk hfit
    go_wp2_with (refine hst.mono ?_; rintro _ W7 ⟨rfl, hV7, hbx7⟩)
    clear hV6 hbx6 b0 b1 b2 hst
    obtain ⟨k0, k1, k2, k3, k4, f0, f1, f2, f3, f4⟩ := cells5 hV7.blk
    obtain ⟨b0, b1, b2⟩ := volume_Load.cells3' hbx7
    refine start_ (n := 11) (S := fun w' => w'.cell? ⟨g, 4, none⟩ = some (.int .i64 last') ∧ w'.cell? ⟨gp, 1, none⟩ = some (.int .i64 x.f1)) (ds := [10]) (Array.replicate 11 false) (by kernel_rfl) rfl rfl ⟨k4, b1⟩ (fun hHeld => ?_)
    refine with_tabW volume_Load.tab10 volume_Load.bits10 (fun HT_ HW_ => ?_)
    clear k0 k1 k2 k3 k4 f0 f1 f2 f3 f4 b0 b1 b2
    replace hV7 : volume_Load.Vol w0 g bl sz last' bb vb W7.drew := hV7.drewN 1
    generalize W7.drew = W8 at hV7 hHeld ⊢
    refine pM 0 33 HT_.out ?_; refine pM 1 34 HT_.out ?_; refine pM 2 35 HT_.out ?_; refine pM 3 36 HT_.out ?_; refine tM 4 37 HT_.out HW_.out hHeld ?_; refine pM 5 38 HT_.out ?_; refine tM 6 39 HT_.out HW_.out hHeld ?_; refine pM 7 40 HT_.out ?_; refine pM 8 41 HT_.out ?_; refine pM 9 42 HT_.out ?_
    refine last_ (i := 10) (N := none) #[true, true, true, true, true, true, true, true, true, true, true] rfl rfl (one_of HT_.out (by kernel_rfl)) (by decide) (fun K hK => ?_)
    have hs4 := hHeld.1
    have hf4 := blk_frozen hV7.blk 4
    refine skip_ (w1 := ?_) (by rfl) rfl ?_ ?_
    rotate_left
    ·go_simp
     rfl
    refine hK.out _ _ ?_
    clear hK K
    refine done_ (done_of HT_.out (by kernel_rfl)) ?_
    go_wp2
    exact ⟨⟨n + 1, x.f0, _, rfl, by omega, by have := hB.out; omega, hV7.set _, hS.out⟩, by simp only [intOf]; omega⟩
   ·obtain rfl : n = l.length := by omega
    go_wp2
    go_ret
    exact ⟨rfl, _, hV⟩
set_option maxHeartbeats 8000000 in
set_option maxRecDepth 100000 in
theorem volume_Load.newBad (w0 W : World) (a0 a1 : Int) (hW : Below w0.heap.size w0 W) (hs : block_Shape.f a0 a1 = some 40) :
  Calls Try.prog 85 #[.agg #[.int .i64 a0, .int .i64 a1]] W fun e W' => e = .returned (.tuple #[.pointer none, .int .i64 40]) ∧ Below w0.heap.size w0 W' := by
 have hlaw := fun w => block_Shape.calls a0 a1 40 w hs
 go_enter Try.func85, Try.ntmps85
 go_wp2_with (first
  | ((with_reducible refine gate_dst (N := 1) rfl ?_); refine box_event ?hg (N := 1) ?hd (cs := #[.int .i64 a0, .int .i64 a1]) (t := 63) ?hr ?_; (case hd => rfl); (case hg => rfl); (case hr => first | (go_simp; done) | (go_simp; rfl)); intro gs hg w3 hbox hb; replace hg := Aside0.mk hg; obtain ⟨b0, b1⟩ := cells2 hbox)
  | (refine (hlaw _).mono ?_; rintro _ W4 ⟨rfl, hb4⟩))
 exact bodyPost_ret (results_tmp2 rfl _ _ _) rfl ⟨rfl, below_step (below_step hW hb) hb4⟩
theorem volume_Load.make_step {P : Program} {ops : Array Oper} {o : Oper} {a : Act} {W : World} {Kc : Act → World → Prop} {Q : Exit → Act → World → Prop} (hw : Region.wanted o (yielded ops a.tmps) = true) (t e : TypeId) (x : Operand) (ho : o.op = .makeSlice t x x) (n : Nat) (hx : a.eval x = .int .i64 n)
  (ht : P.underlying t = some (.slice e)) {i : TypeInfo} {z : Value} (hi : P.info? e = some i) (hz : i.zero = some z) (hs : i.size = 1) (hby : (i.bytes : Int) * (n : Int) ≤ 281474976710656) (hn : n < 2 ^ 62)
  (h : ∀ g, g = W.heap.size → ∀ w1 (cs : Array Value), cs.size = n → w1.heap[g]? = some (.cells cs e (0, 0)) → Below W.heap.size W w1 → Kc (a.put o.dst (.slice (some ⟨g, 0, none⟩) n n)) w1) :
  if Region.wanted o (yielded ops a.tmps) = true then Oper.wp P o a W Kc Q else Kc (a.put o.dst undef) W := by
 have hr := run_make (P := P) W t e i z ht hi hz .i64 .i64 (n : Int) (n : Int) (by omega) (by omega) hby (by omega)
 rw [Int.toNat_natCast, hs, Nat.mul_one] at hr
 exact event_step hw (by simp [execOp, ho, hx, hr]) (h _ rfl _ (madeCells z.cells n) (size_madeCells _ _) (blk_new W _) (below_alloc (Below.refl _ _) _))
theorem volume_Load.tab4 : rtab .any (opsOf Try.f85 4) = rtab .any (opsOf Try.f85 4) := rfl
def volume_Load.B4 : List Nat := [0, 0, 2, 0, 8, 30, 62, 0, 128, 384, 1023, 2047, 4095, 8191]
theorem volume_Load.bits4 : waitsOk (rtab .any (opsOf Try.f85 4)).2 volume_Load.B4 = true := by kernel_rfl
set_option maxHeartbeats 8000000 in
set_option maxRecDepth 100000 in
theorem volume_Load.newGood (w0 W : World) (bl sz : Nat) (hW : Below w0.heap.size w0 W) (hbl : 1 ≤ bl ∧ bl ≤ 4096) (hsz : 1 ≤ sz ∧ sz ≤ 4096) :
  Calls Try.prog 85 #[.agg #[.int .i64 bl, .int .i64 sz]] W fun e W' => ∃ g bb vb, e = .returned (.tuple #[.pointer (some ⟨g, 0, none⟩), .int .i64 0]) ∧ volume_Load.Vol w0 g bl sz 0 bb vb W' := by
 have hs : block_Shape.f bl sz = some 0 := by
  rw [block_Shape.f, if_neg (by omega), if_neg (by omega), if_neg (by omega), if_neg (by omega)]
 have hlaw := fun w => block_Shape.calls bl sz 0 w hs
 have q2 : bl * sz ≤ 4096 * 4096 := Nat.mul_le_mul hbl.2 hsz.2
 obtain ⟨N, hN⟩ : ∃ N : Nat, bl * sz = N := ⟨_, rfl⟩
 rw [hN] at q2
 have e1 : True → wrap64 ((bl : Int) * (sz : Int)) = (N : Int) := fun _ => by rw [← Int.natCast_mul, hN]; exact volume_Load.wrapN N (by omega)
 replace hN := Aside0.mk hN
 go_enter Try.func85, Try.ntmps85
 go_wp2_with (first
  | ((with_reducible refine gate_dst (N := 1) rfl ?_); refine box_event ?hg (N := 1) ?hd (cs := #[.int .i64 bl, .int .i64 sz]) (t := 63) ?hr ?_; (case hd => rfl); (case hg => rfl); (case hr => first | (go_simp; done) | (go_simp; rfl)); intro gs hg w3 hbox hb; replace hg := Aside0.mk hg; obtain ⟨b0, b1⟩ := cells2 hbox)
  | (refine (hlaw _).mono ?_; rintro _ W4 ⟨rfl, hb4⟩))
 replace hbox := blk_below hbox hb4
 have hB4 := Aside0.mk (below_step (below_step hW hb) hb4)
 refine start_ (n := 14) (S := fun w' => w'.cell? ⟨gs, 0, none⟩ = some (.int .i64 bl) ∧ w'.cell? ⟨gs, 1, none⟩ = some (.int .i64 sz)) (ds := []) (Array.replicate 14 false) (by kernel_rfl) rfl rfl ⟨(blk_cell hbox 0).trans rfl, (blk_cell hbox 1).trans rfl⟩ (fun hHeld => ?_)
 refine with_tabW volume_Load.tab4 volume_Load.bits4 (fun HT_ HW_ => ?_)
 replace hbox := blk_drew hbox
 replace hB4 := Aside0.mk (below_drew1 hB4.out)
 generalize W4.drew = W5 at hbox hB4 hHeld ⊢
 clear hb hb4 b0 b1
 refine pM 1 11 HT_.out ?_; refine pM 3 13 HT_.out ?_; refine pM 7 17 HT_.out ?_; refine tM 0 10 HT_.out HW_.out hHeld ?_; refine tM 2 12 HT_.out HW_.out hHeld ?_; refine tM 4 14 HT_.out HW_.out hHeld ?_; refine pM 5 15 HT_.out ?_; refine tM 8 18 HT_.out HW_.out hHeld ?_
 rw [e1 trivial]
 obtain ⟨i0, hi0, hz0, hz1, hz2⟩ := info_parts info5
 obtain ⟨j0, hj0, hy0, hy1, hy2⟩ := info_parts info3
 refine two_ (i := 6) (j := 9) (Ni := some 16) (Nj := some 19) #[true, true, true, true, true, true, true, true, true, false, false, false, false, false] #[true, true, true, true, true, true, false, true, true, true, false, false, false, false] rfl rfl rfl rfl (two_of HT_.out (by kernel_rfl)) (by decide) (by decide) (fun K hK => ?_) (fun K hK => ?_)
 ·refine volume_Load.make_step (by rfl) 37 5 (.tmp 15) rfl N rfl Try.underlying37 hi0 hz0 hz1 (by rw [hz2]; omega) (by omega) ?_
  intro g6 hg6 w6 c6 hs6 hb6 hB6
  replace hg6 := Aside0.mk hg6
  replace hs6 := Aside0.mk hs6
  replace hbox := blk_below hbox hB6
  refine hK.out _ _ ⟨(blk_cell hbox 0).trans rfl, (blk_cell hbox 1).trans rfl⟩ (fun hHeld => ?_)
  clear hK K
  refine nM 16 ?_
  refine oM 9 19 HT_.out (fun K hK => ?_)
  refine volume_Load.make_step (by rfl) 56 3 (.tmp 18) rfl bl rfl Try.underlying56 hj0 hy0 hy1 (by rw [hy2]; omega) (by omega) ?_
  intro g9 hg9 w9 c9 hs9 hb9 hB9
  replace hg9 := Aside0.mk hg9
  replace hs9 := Aside0.mk hs9
  replace hbox := blk_below hbox hB9
  replace hb6 := blk_below hb6 hB9
  refine hK.out _ _ ⟨(blk_cell hbox 0).trans rfl, (blk_cell hbox 1).trans rfl⟩ (fun hHeld => ?_)
  clear hK K
  refine nM 19 ?_; refine pM 10 20 HT_.out ?_
  refine oM 11 21 HT_.out (fun K hK => ?_)
  refine box_step ?hg (N := 21) ?hd (cs := #[.int .i64 bl, .int .i64 sz, .slice (some ⟨g6, 0, none⟩) N N, .slice (some ⟨g9, 0, none⟩) bl bl, .int .i64 0]) (t := 144) ?hr ?_; (case hd => rfl); (case hg => rfl); (case hr => first | (go_simp; done) | (go_simp; rfl))
  intro gv hgv wv hbv hBv
  replace hgv := Aside0.mk hgv
  replace hbox := blk_below hbox hBv
  refine hK.out _ _ ⟨(blk_cell hbox 0).trans rfl, (blk_cell hbox 1).trans rfl⟩ (fun hHeld => ?_)
  clear hK K
  refine nM 21 ?_; refine pM 12 2 HT_.out ?_; refine pM 13 3 HT_.out ?_
  refine done_ (done_of HT_.out (by kernel_rfl)) ?_
  go_wp2
  have B1 := below_step hB4.out hB6
  have B2 := below_step B1 hB9
  refine bodyPost_ret (results_tmp2 rfl _ _ _) rfl ⟨gv, g6, g9, rfl, ⟨?_, ⟨c6, blk_below hb6 hBv, ?_⟩, ⟨c9, blk_below hb9 hBv, hs9.out⟩, ⟨?_, ?_, ?_⟩, below_step B2 hBv⟩⟩
  ·rw [hN.out]; exact hbv
  ·rw [hN.out]; exact hs6.out
  ·rw [hgv.out]; exact below_size B2
  ·rw [hg6.out]; exact below_size hB4.out
  ·rw [hg9.out]; exact below_size B1
 ·refine volume_Load.make_step (by rfl) 56 3 (.tmp 18) rfl bl rfl Try.underlying56 hj0 hy0 hy1 (by rw [hy2]; omega) (by omega) ?_
  intro g9 hg9 w9 c9 hs9 hb9 hB9
  replace hg9 := Aside0.mk hg9
  replace hs9 := Aside0.mk hs9
  replace hbox := blk_below hbox hB9
  refine hK.out _ _ ⟨(blk_cell hbox 0).trans rfl, (blk_cell hbox 1).trans rfl⟩ (fun hHeld => ?_)
  clear hK K
  refine nM 19 ?_
  refine oM 6 16 HT_.out (fun K hK => ?_)
  refine volume_Load.make_step (by rfl) 37 5 (.tmp 15) rfl N rfl Try.underlying37 hi0 hz0 hz1 (by rw [hz2]; omega) (by omega) ?_
  intro g6 hg6 w6 c6 hs6 hb6 hB6
  replace hg6 := Aside0.mk hg6
  replace hs6 := Aside0.mk hs6
  replace hbox := blk_below hbox hB6
  replace hb9 := blk_below hb9 hB6
  refine hK.out _ _ ⟨(blk_cell hbox 0).trans rfl, (blk_cell hbox 1).trans rfl⟩ (fun hHeld => ?_)
  clear hK K
  refine nM 16 ?_; refine pM 10 20 HT_.out ?_
  refine oM 11 21 HT_.out (fun K hK => ?_)
  refine box_step ?hg (N := 21) ?hd (cs := #[.int .i64 bl, .int .i64 sz, .slice (some ⟨g6, 0, none⟩) N N, .slice (some ⟨g9, 0, none⟩) bl bl, .int .i64 0]) (t := 144) ?hr ?_; (case hd => rfl); (case hg => rfl); (case hr => first | (go_simp; done) | (go_simp; rfl))
  intro gv hgv wv hbv hBv
  replace hgv := Aside0.mk hgv
  replace hbox := blk_below hbox hBv
  refine hK.out _ _ ⟨(blk_cell hbox 0).trans rfl, (blk_cell hbox 1).trans rfl⟩ (fun hHeld => ?_)
  clear hK K
  refine nM 21 ?_; refine pM 12 2 HT_.out ?_; refine pM 13 3 HT_.out ?_
  refine done_ (done_of HT_.out (by kernel_rfl)) ?_
  go_wp2
  have B1 := below_step hB4.out hB9
  have B2 := below_step B1 hB6
  refine bodyPost_ret (results_tmp2 rfl _ _ _) rfl ⟨gv, g6, g9, rfl, ⟨?_, ⟨c6, blk_below hb6 hBv, ?_⟩, ⟨c9, blk_below hb9 hBv, hs9.out⟩, ⟨?_, ?_, ?_⟩, below_step B2 hBv⟩⟩
  ·rw [hN.out]; exact hbv
  ·rw [hN.out]; exact hs6.out
  ·rw [hgv.out]; exact below_size B2
  ·rw [hg6.out]; exact below_size B1
  ·rw [hg9.out]; exact below_size hB4.out
set_option maxHeartbeats 8000000 in
set_option maxRecDepth 100000 in
theorem volume_Load.loadBad (w0 W : World) (a0 a1 : Int) (v : Value) (hW : Below w0.heap.size w0 W) (hs : block_Shape.f a0 a1 = some 40) :
  Calls Try.prog 80 #[.agg #[.int .i64 a0, .int .i64 a1], v] W fun e W' => (∃ p, e = .returned (.tuple #[.pointer p, .int .i64 40])) ∧ Below w0.heap.size w0 W' := by
 have hlaw := fun w hw => volume_Load.newBad w0 w a0 a1 hw hs
 go_enter Try.func80, Try.ntmps80
 go_wp2_with (first
  | ((with_reducible refine gate_dst (N := 2) rfl ?_); refine box_event ?hg (N := 2) ?hd (cs := #[.int .i64 a0, .int .i64 a1]) (t := 63) ?hr ?_; (case hd => rfl); (case hg => rfl); (case hr => first | (go_simp; done) | (go_simp; rfl)); intro gs hg w3 hbox hb; replace hg := Aside0.mk hg; obtain ⟨b0, b1⟩ := cells2 hbox)
  | (refine (hlaw _ (below_step hW hb)).mono ?_; rintro _ W4 ⟨rfl, hb4⟩))
 exact bodyPost_ret (results_tmp2 rfl _ _ _) rfl ⟨⟨_, rfl⟩, hb4⟩
set_option maxHeartbeats 8000000 in
set_option maxRecDepth 100000 in
theorem volume_Load.loadGood (w0 W : World) (bl sz : Nat) (A : Option Addr) (c : Nat) (l : List S39) (hW : Below w0.heap.size w0 W) (hr : Kd.C k39 w0 A l.length l) (hc : l.length ≤ c) (hlen : l.length < 2 ^ 48) (hbl : 1 ≤ bl ∧ bl ≤ 4096) (hsz : 1 ≤ sz ∧ sz ≤ 4096) :
  Calls Try.prog 80 #[.agg #[.int .i64 bl, .int .i64 sz], .slice A l.length c] W fun e W' => (∃ p, e = .returned (.tuple #[.pointer p, .int .i64 (if volume_Load.laidAll bl sz (-1) l = true then 0 else 50)])) ∧ Below w0.heap.size w0 W' := by
 have hlaw := fun w hw => volume_Load.newGood w0 w bl sz hw hbl hsz
 have hpat := fun w g bb vb hv => volume_Load.patch w0 w g bl sz bb vb 0 A c l hv hr hc hlen hbl.2 hsz
 clear hr hc hlen hbl hsz
 cases eb : volume_Load.laidAll bl sz (-1) l
 ·rw [if_neg (by decide)]
  rw [eb, if_neg (by decide)] at hpat
  go_enter Try.func80, Try.ntmps80
  go_wp2_with (first
   | ((with_reducible refine gate_dst (N := 2) rfl ?_); refine box_event ?hg (N := 2) ?hd (cs := #[.int .i64 bl, .int .i64 sz]) (t := 63) ?hr ?_; (case hd => rfl); (case hg => rfl); (case hr => first | (go_simp; done) | (go_simp; rfl)); intro gs hg w3 hbox hb; replace hg := Aside0.mk hg; obtain ⟨b0, b1⟩ := cells2 hbox)
   | (refine (hlaw _ (below_step hW hb)).mono ?_; rintro _ W4 ⟨g, bb, vb, rfl, hV4⟩)
   | (refine (hpat _ g bb vb hV4).mono ?_; rintro _ W5 ⟨rfl, last', hV5⟩))
  exact bodyPost_ret (results_tmp2 rfl _ _ _) rfl ⟨⟨_, rfl⟩, hV5.below⟩
 ·rw [if_pos rfl]
  rw [eb, if_pos rfl] at hpat
  go_enter Try.func80, Try.ntmps80
  go_wp2_with (first
   | ((with_reducible refine gate_dst (N := 2) rfl ?_); refine box_event ?hg (N := 2) ?hd (cs := #[.int .i64 bl, .int .i64 sz]) (t := 63) ?hr ?_; (case hd => rfl); (case hg => rfl); (case hr => first | (go_simp; done) | (go_simp; rfl)); intro gs hg w3 hbox hb; replace hg := Aside0.mk hg; obtain ⟨b0, b1⟩ := cells2 hbox)
   | (refine (hlaw _ (below_step hW hb)).mono ?_; rintro _ W4 ⟨g, bb, vb, rfl, hV4⟩)
   | (refine (hpat _ g bb vb hV4).mono ?_; rintro _ W5 ⟨rfl, last', hV5⟩))
  exact bodyPost_ret (results_tmp2 rfl _ _ _) rfl ⟨⟨_, rfl⟩, hV5.below⟩

def table_Load.num (n : Int) : Bool := if 1 ≤ n then decide (n ≤ 4611686018427387904) else false
set_option maxHeartbeats 8000000 in
set_option maxRecDepth 100000 in
theorem table_Load.isNumber (W : World) (n : Int) : Calls Try.prog 101 #[.int .i64 n] W fun e W' => e = .returned (.bool (table_Load.num n)) ∧ W' = W := by
 by_cases c1 : 1 ≤ n
 ·have c1b := decide_eq_true c1
  have H := Aside0.mk (show table_Load.num n = decide (n ≤ 4611686018427387904) by rw [table_Load.num, if_pos c1])
  clear c1
  go_enter Try.func101, Try.ntmps101
  go_wp2
  go_ret
  exact ⟨by rw [H.out]; rfl, rfl⟩
 ·have c1b := decide_eq_false c1
  have H := Aside0.mk (show table_Load.num n = false by rw [table_Load.num, if_neg c1])
  clear c1
  go_enter Try.func101, Try.ntmps101
  go_wp2
  go_ret
  exact ⟨by rw [H.out]; rfl, rfl⟩
/-- How an element reads: its shape alone is asked. -/
def table_Load.R : Value → Option (DataW Unit × List MemPlace)
 | .agg a => match a.toList with
  | [.int .i64 _, .int .u8 _, .slice _ _ _] => some (.lit (.bool true), [])
  | _ => none
 | _ => none
theorem table_Load.R_mk (s c : Int) (A : Option Addr) (n k : Nat) : table_Load.R (.agg #[.int .i64 s, .int .u8 c, .slice A n k]) = some (.lit (.bool true), []) := rfl
theorem table_Load.R_open {v : Value} {d : DataW Unit} {ps : List MemPlace} (h : table_Load.R v = some (d, ps)) : ∃ s c A n k, v = .agg #[.int .i64 s, .int .u8 c, .slice A n k] := by
 cases v <;> try (cases h)
 rename_i a
 unfold table_Load.R at h
 dsimp only at h
 split at h
 ·rename_i s c A n k e
  exact ⟨s, c, A, n, k, by rw [show a = (a.toList).toArray from (Array.toArray_toList).symm, e]⟩
 ·cases h
structure table_Load.Tab (w0 : World) (g b n : Nat) (D : DataW Unit) (W : World) : Prop where
 blk : W.heap[g]? = some (.cells #[.map (some b)] 150 (0, 0))
 map : W.ownsMap Try.prog 3 table_Load.R b n D
 own : w0.heap.size ≤ g ∧ w0.heap.size ≤ b
 below : Below w0.heap.size w0 W
set_option maxHeartbeats 8000000 in
set_option maxRecDepth 100000 in
theorem table_Load.new (w0 W : World) (hW : Below w0.heap.size w0 W) : Calls Try.prog 87 #[] W fun e W' => ∃ g b, e = .returned (.pointer (some ⟨g, 0, none⟩)) ∧ table_Load.Tab w0 g b 0 (.map []) W' := by
 have hmm := @run_makeMap Try.prog
 have hm0 := Aside0.mk (World.ownsMap_made W Try.prog 3 table_Load.R)
 have hB := Aside0.mk (below_alloc hW (.map #[] 0))
 have hbl := Aside0.mk (below_size hW)
 go_enter Try.func87, Try.ntmps87
 go_wp2
 go_ret
 have hn := blk_new (W.alloc (.map #[] 0)) (.cells #[.map (some W.heap.size)] 150 (0, 0))
 have hs : (W.alloc (.map #[] 0)).heap.size = W.heap.size + 1 := Array.size_push _
 rw [hs] at hn
 exact ⟨_, _, rfl, ⟨hn, hm0.out.alloc _, ⟨Nat.le_succ_of_le hbl.out, hbl.out⟩, below_alloc hB.out _⟩⟩
theorem table_Load.cells1 {w : World} {g : Nat} {t : TypeId} {a : Value} (h : w.heap[g]? = some (.cells #[a] t (0, 0))) : w.cell? ⟨g, 0, none⟩ = some a ∧ w.frozen? ⟨g, 0, none⟩ = false := ⟨blk_cell h 0, blk_frozen h 0⟩
set_option maxHeartbeats 8000000 in
set_option maxRecDepth 100000 in
theorem table_Load.made (w0 W : World) (g b n : Nat) (D : DataW Unit) (h : table_Load.Tab w0 g b n D W) : Calls Try.prog 100 #[.pointer (some ⟨g, 0, none⟩)] W fun e W' => e = .returned (.bool true) ∧ W' = W := by
 obtain ⟨k0, f0⟩ := table_Load.cells1 h.blk
 have hu := Try.underlying148
 have hq := fun (w : World) => run_neq_map_nil (P := Try.prog) w 148 _ _ (some b) Try.underlying148
 clear h
 go_enter Try.func100, Try.ntmps100
 go_wp2
 go_ret
 exact ⟨rfl, rfl⟩
theorem table_Load.law3 : Keyed Try.prog 3 := int_keyed Try.underlying3
theorem table_Load.zero156 (w : World) : (zeroValue 156).run Try.prog w = .ok (.agg #[.int .i64 0, .int .u8 0, .slice none 0 0]) w := by kernel_rfl
theorem table_Load.Tab.grow {w0 W W1 : World} {g b n : Nat} {D : DataW Unit} (h : table_Load.Tab w0 g b n D W) (hb : Below W.heap.size W W1) : table_Load.Tab w0 g b n D W1 := by
 obtain ⟨h1, ⟨es, ck, h2, h3⟩, h4, h5⟩ := h
 exact ⟨blk_below h1 hb, ⟨es, ck, blk_below h2 hb, h3⟩, h4, below_step h5 hb⟩
theorem table_Load.Tab.far {w0 W : World} {g b n : Nat} {D : DataW Unit} (h : table_Load.Tab w0 g b n D W) {gr : Nat} {cs : Array Value} (hr : W.heap[gr]? = some (.cells cs 119 (0, 0))) (hw : w0.heap.size ≤ gr) (i : Nat) (u : Value) : table_Load.Tab w0 g b n D (W.setCell ⟨gr, i, none⟩ u) := by
 obtain ⟨h1, ⟨es, ck, h2, h3⟩, h4, h5⟩ := h
 refine ⟨blk_far h1 (volume_Load.ne h1 hr (by decide)) _, ⟨es, ck, ?_, h3⟩, h4, h5.setCell (p := ⟨gr, i, none⟩) hw _⟩
 exact (Below.heap_setCell W ⟨gr, i, none⟩ u b (by rintro rfl; rw [h2] at hr; cases hr)).trans h2
theorem table_Load.results_list {P : Program} {tmps : Array Value} {w : World} {fn : Func} {rs : List ResultVar} {vs : List Value} (h : fn.results = rs.toArray) (hl : vs.length ≠ 1) (hv : Vals P tmps w rs vs) : (results fn tmps).run P w = .ok (.tuple vs.toArray) w := by
 unfold results
 rw [h, List.mapM_toArray]
 simp only [Sem.run_bind, Sem.run_map]
 rw [vals_run hv]
 ·simp [hl]
 ·intro u
  rfl
 ·intro a t
  rfl

set_option maxHeartbeats 8000000 in
set_option maxRecDepth 100000 in
theorem table_Load.askBad (w0 W : World) (g b n : Nat) (D : DataW Unit) (cl se : Int) (h : table_Load.Tab w0 g b n D W) (hc : (if table_Load.num cl = true then table_Load.num se else false) = false) :
  Calls Try.prog 96 #[.pointer (some ⟨g, 0, none⟩), .int .i64 cl, .int .i64 se] W fun e W' => (∃ v r A c k, e = .returned (.tuple #[.int .i64 v, .agg #[.int .u8 r, .slice A c k], .int .i64 5])) ∧ Below W.heap.size W W' := by
 have hmade := fun w h => table_Load.made w0 w g b n D h
 have hnum := fun w n => table_Load.isNumber w n
 cases c1 : table_Load.num cl
 ·go_enter Try.func96, Try.ntmps96
  go_wp2_with (first
   | ((with_reducible refine gate_dst (N := 7) rfl ?_); refine box_event ?hg (N := 7) ?hd (cs := #[.int .u8 0, .slice none 0 0]) (t := 119) ?hr ?_; (case hd => rfl); (case hg => rfl); (case hr => first | (go_simp; done) | (go_simp; rfl)); intro gr hg w3 hbox hb; replace hg := Aside0.mk hg; obtain ⟨b0, b1⟩ := cells2 hbox; have f0 := blk_frozen hbox 0; have f1 := blk_frozen hbox 1)
   | (refine (hmade _ (h.grow hb)).mono ?_; rintro _ _ ⟨rfl, rfl⟩)
   | (refine (hnum _ cl).mono ?_; rintro _ _ ⟨rfl, rfl⟩)
   | (refine (hnum _ se).mono ?_; rintro _ _ ⟨rfl, rfl⟩))
  have hT := (hb.setCell (p := ⟨gr, 0, none⟩) (Nat.le_of_eq hg.out.symm) (.int .u8 0)).setCell (p := ⟨gr, 1, none⟩) (Nat.le_of_eq hg.out.symm) (.slice none 0 0)
  have hq := blk_set (blk_set hbox 0 (.int .u8 0)) 1 (.slice none 0 0)
  exact bodyPost_ret (table_Load.results_list rfl (by simp only [List.length_cons, List.length_nil]; decide) (.tmp (.cell gr 119 _ _ _ rfl hq Try.underlying119 rfl (by kernel_rfl) (.tmp .nil)))) rfl ⟨⟨0, 0, none, 0, 0, rfl⟩, hT⟩
 ·have c2 : table_Load.num se = false := by rw [c1, if_pos rfl] at hc; exact hc
  go_enter Try.func96, Try.ntmps96
  go_wp2_with (first
   | ((with_reducible refine gate_dst (N := 7) rfl ?_); refine box_event ?hg (N := 7) ?hd (cs := #[.int .u8 0, .slice none 0 0]) (t := 119) ?hr ?_; (case hd => rfl); (case hg => rfl); (case hr => first | (go_simp; done) | (go_simp; rfl)); intro gr hg w3 hbox hb; replace hg := Aside0.mk hg; obtain ⟨b0, b1⟩ := cells2 hbox; have f0 := blk_frozen hbox 0; have f1 := blk_frozen hbox 1)
   | (refine (hmade _ (h.grow hb)).mono ?_; rintro _ _ ⟨rfl, rfl⟩)
   | (refine (hnum _ cl).mono ?_; rintro _ _ ⟨rfl, rfl⟩)
   | (refine (hnum _ se).mono ?_; rintro _ _ ⟨rfl, rfl⟩))
  have hT := (hb.setCell (p := ⟨gr, 0, none⟩) (Nat.le_of_eq hg.out.symm) (.int .u8 0)).setCell (p := ⟨gr, 1, none⟩) (Nat.le_of_eq hg.out.symm) (.slice none 0 0)
  have hq := blk_set (blk_set hbox 0 (.int .u8 0)) 1 (.slice none 0 0)
  exact bodyPost_ret (table_Load.results_list rfl (by simp only [List.length_cons, List.length_nil]; decide) (.tmp (.cell gr 119 _ _ _ rfl hq Try.underlying119 rfl (by kernel_rfl) (.tmp .nil)))) rfl ⟨⟨0, 0, none, 0, 0, rfl⟩, hT⟩
theorem table_Load.Tab.far' {w0 W : World} {g b n : Nat} {D : DataW Unit} (h : table_Load.Tab w0 g b n D W) {gr : Nat} {t : TypeId} {cs : Array Value} (hr : W.heap[gr]? = some (.cells cs t (0, 0))) (ht : (150 : TypeId) ≠ t) (hw : w0.heap.size ≤ gr) (i : Nat) (u : Value) : table_Load.Tab w0 g b n D (W.setCell ⟨gr, i, none⟩ u) := by
 obtain ⟨h1, ⟨es, ck, h2, h3⟩, h4, h5⟩ := h
 refine ⟨blk_far h1 (volume_Load.ne h1 hr ht) _, ⟨es, ck, ?_, h3⟩, h4, h5.setCell (p := ⟨gr, i, none⟩) hw _⟩
 exact (Below.heap_setCell W ⟨gr, i, none⟩ u b (by rintro rfl; rw [h2] at hr; cases hr)).trans h2
theorem table_Load.key (cl : Int) (h : table_Load.num cl = true) : keyOf Try.prog 3 (.int .i64 cl) = some (.int .i64 cl) := keyOf_int_mk Try.underlying3 (by
 unfold table_Load.num at h
 split at h
 ·have := of_decide_eq_true h
  have e1 : IntKind.i64.min = -9223372036854775808 := by decide
  have e2 : IntKind.i64.max = 9223372036854775807 := by decide
  simp [Lit.wf, e1, e2]
  omega
 ·cases h)
theorem table_Load.three {w0 W : World} {g b n : Nat} {D : DataW Unit} (h : table_Load.Tab w0 g b n D W) {gr : Nat} {cs : Array Value} (hr : W.heap[gr]? = some (.cells cs 156 (0, 0))) (hw : w0.heap.size ≤ gr) (u v x : Value) : table_Load.Tab w0 g b n D (((W.setCell ⟨gr, 0, none⟩ u).setCell ⟨gr, 1, none⟩ v).setCell ⟨gr, 2, none⟩ x) :=
 ((h.far' hr (by decide) hw 0 u).far' (blk_set hr 0 u) (by decide) hw 1 v).far' (blk_set (blk_set hr 0 u) 1 v) (by decide) hw 2 x
theorem table_Load.three_below {w0 W W1 : World} {n : Nat} (h : Below n w0 W) {g : Nat} (hg : n ≤ g) {u v x : Value} (e : ((W.setCell ⟨g, 0, none⟩ u).setCell ⟨g, 1, none⟩ v).setCell ⟨g, 2, none⟩ x = W1) : Below n w0 W1 :=
 e ▸ ((h.setCell (p := ⟨g, 0, none⟩) hg u).setCell (p := ⟨g, 1, none⟩) hg v).setCell (p := ⟨g, 2, none⟩) hg x
theorem table_Load.three_keep {W W1 : World} {g gr : Nat} {t t' : TypeId} {cs cs' : Array Value} (h : W.heap[g]? = some (.cells cs t (0, 0))) (hr : W.heap[gr]? = some (.cells cs' t' (0, 0))) (hne : t ≠ t') {u v x : Value} (e : ((W.setCell ⟨gr, 0, none⟩ u).setCell ⟨gr, 1, none⟩ v).setCell ⟨gr, 2, none⟩ x = W1) : W1.heap[g]? = some (.cells cs t (0, 0)) := by
 have hg := volume_Load.ne h hr hne
 exact e ▸ blk_far (blk_far (blk_far h hg u) hg v) hg x
set_option maxHeartbeats 8000000 in
set_option maxRecDepth 100000 in
theorem table_Load.askNew (w0 W : World) (g b n : Nat) (D : DataW Unit) (cl se : Int) (h : table_Load.Tab w0 g b n D W) (c1 : table_Load.num cl = true) (c2 : table_Load.num se = true) (hD : Maps.has D (.int .i64 cl) = false) :
  Calls Try.prog 96 #[.pointer (some ⟨g, 0, none⟩), .int .i64 cl, .int .i64 se] W fun e W' => (∃ r A c k, e = .returned (.tuple #[.int .i64 (if Maps.size D = 64 then 4 else 1), .agg #[.int .u8 r, .slice A c k], .int .i64 0])) ∧ Below W.heap.size W W' := by
 have hmade := fun w h => table_Load.made w0 w g b n D h
 have hnum := fun w n => table_Load.isNumber w n
 have hkey := Aside0.mk (table_Load.key cl c1)
 by_cases c3 : Maps.size D = 64
 ·have c3b : ((Maps.size D : Int) == 64) = true := by rw [c3]; rfl
  rw [if_pos c3]
  clear c3
  go_enter Try.func96, Try.ntmps96
  go_wp2_with (first
   | ((with_reducible refine gate_dst (N := 7) rfl ?_); refine box_event ?hg (N := 7) ?hd (cs := #[.int .u8 0, .slice none 0 0]) (t := 119) ?hr ?_; (case hd => rfl); (case hg => rfl); (case hr => first | (go_simp; done) | (go_simp; rfl)); intro gr hg w3 hbox hb; replace hg := Aside0.mk hg; obtain ⟨b0, b1⟩ := cells2 hbox; have f0 := blk_frozen hbox 0; have f1 := blk_frozen hbox 1; have k0 := (table_Load.cells1 (h.grow hb).blk).1)
   | (at_lookup; refine wpList_lookup_own_ok _ rfl _ _ 148 rfl 3 156 table_Load.law3 Try.underlying148 table_Load.R (table_Load.zero156 _) (.lit (.bool true)) [] (table_Load.R_mk _ _ _ _ _) b n D rfl (h.grow hb).map _ (.int .i64 cl) rfl hkey.out ?_; intro v ps hv; obtain ⟨s_, c_, A_, m_, k_, rfl⟩ := table_Load.R_open hv; clear hv; rw [hD])
   | ((with_reducible refine gate_dst (N := 9) rfl ?_); refine box_event ?hg (N := 9) ?hd (cs := #[.int .i64 0, .int .u8 0, .slice none 0 0]) (t := 156) ?hr ?_; (case hd => rfl); (case hg => rfl); (case hr => first | (go_simp; done) | (go_simp; rfl)); intro g9 hg9 w9 hbox9 hb9; replace hg9 := Aside0.mk hg9; obtain ⟨d0, d1, d2⟩ := volume_Load.cells3' hbox9; have e0 := blk_frozen hbox9 0; have e1 := blk_frozen hbox9 1; have e2 := blk_frozen hbox9 2; have hT9 := table_Load.three ((h.grow hb).grow hb9) hbox9 (by rw [hg9.out]; exact below_size (h.grow hb).below) (.int .i64 s_) (.int .u8 c_) (.slice A_ m_ k_); obtain ⟨w10, hw10⟩ : ∃ w10, ((w9.setCell ⟨g9, 0, none⟩ (.int .i64 s_)).setCell ⟨g9, 1, none⟩ (.int .u8 c_)).setCell ⟨g9, 2, none⟩ (.slice A_ m_ k_) = w10 := ⟨_, rfl⟩; rw [hw10] at hT9; have k9 := (table_Load.cells1 hT9.blk).1; have hlen := hT9.map.len Try.underlying148 3; obtain ⟨b2, b3⟩ := cells2 (table_Load.three_keep (blk_below hbox hb9) hbox9 (by decide) hw10); clear f0 f1; have f0 := blk_frozen (table_Load.three_keep (blk_below hbox hb9) hbox9 (by decide) hw10) 0; have f1 := blk_frozen (table_Load.three_keep (blk_below hbox hb9) hbox9 (by decide) hw10) 1)
   | (refine (hmade _ (h.grow hb)).mono ?_; rintro _ _ ⟨rfl, rfl⟩)
   | (refine (hnum _ cl).mono ?_; rintro _ _ ⟨rfl, rfl⟩)
   | (refine (hnum _ se).mono ?_; rintro _ _ ⟨rfl, rfl⟩))
  have hbox10 := table_Load.three_keep (blk_below hbox hb9) hbox9 (by decide) hw10
  have hB9 := table_Load.three_below (hb.trans (hb9.mono (below_size hb))) (g := g9) (by rw [hg9.out]; exact below_size hb) hw10
  exact bodyPost_ret (table_Load.results_list rfl (by simp only [List.length_cons, List.length_nil]; decide) (.tmp (.cell gr 119 _ _ _ rfl (blk_set (blk_set hbox10 0 (.int .u8 0)) 1 (.slice none 0 0)) Try.underlying119 rfl (by kernel_rfl) (.tmp .nil)))) rfl ⟨⟨0, none, 0, 0, rfl⟩, (hB9.setCell (p := ⟨gr, 0, none⟩) (Nat.le_of_eq hg.out.symm) _).setCell (p := ⟨gr, 1, none⟩) (Nat.le_of_eq hg.out.symm) _⟩
 ·have c3b : ((Maps.size D : Int) == 64) = false := by rw [beq_eq_false_iff_ne]; omega
  rw [if_neg c3]
  clear c3
  go_enter Try.func96, Try.ntmps96
  go_wp2_with (first
   | ((with_reducible refine gate_dst (N := 7) rfl ?_); refine box_event ?hg (N := 7) ?hd (cs := #[.int .u8 0, .slice none 0 0]) (t := 119) ?hr ?_; (case hd => rfl); (case hg => rfl); (case hr => first | (go_simp; done) | (go_simp; rfl)); intro gr hg w3 hbox hb; replace hg := Aside0.mk hg; obtain ⟨b0, b1⟩ := cells2 hbox; have f0 := blk_frozen hbox 0; have f1 := blk_frozen hbox 1; have k0 := (table_Load.cells1 (h.grow hb).blk).1)
   | (at_lookup; refine wpList_lookup_own_ok _ rfl _ _ 148 rfl 3 156 table_Load.law3 Try.underlying148 table_Load.R (table_Load.zero156 _) (.lit (.bool true)) [] (table_Load.R_mk _ _ _ _ _) b n D rfl (h.grow hb).map _ (.int .i64 cl) rfl hkey.out ?_; intro v ps hv; obtain ⟨s_, c_, A_, m_, k_, rfl⟩ := table_Load.R_open hv; clear hv; rw [hD])
   | ((with_reducible refine gate_dst (N := 9) rfl ?_); refine box_event ?hg (N := 9) ?hd (cs := #[.int .i64 0, .int .u8 0, .slice none 0 0]) (t := 156) ?hr ?_; (case hd => rfl); (case hg => rfl); (case hr => first | (go_simp; done) | (go_simp; rfl)); intro g9 hg9 w9 hbox9 hb9; replace hg9 := Aside0.mk hg9; obtain ⟨d0, d1, d2⟩ := volume_Load.cells3' hbox9; have e0 := blk_frozen hbox9 0; have e1 := blk_frozen hbox9 1; have e2 := blk_frozen hbox9 2; have hT9 := table_Load.three ((h.grow hb).grow hb9) hbox9 (by rw [hg9.out]; exact below_size (h.grow hb).below) (.int .i64 s_) (.int .u8 c_) (.slice A_ m_ k_); obtain ⟨w10, hw10⟩ : ∃ w10, ((w9.setCell ⟨g9, 0, none⟩ (.int .i64 s_)).setCell ⟨g9, 1, none⟩ (.int .u8 c_)).setCell ⟨g9, 2, none⟩ (.slice A_ m_ k_) = w10 := ⟨_, rfl⟩; rw [hw10] at hT9; have k9 := (table_Load.cells1 hT9.blk).1; have hlen := hT9.map.len Try.underlying148 3; obtain ⟨b2, b3⟩ := cells2 (table_Load.three_keep (blk_below hbox hb9) hbox9 (by decide) hw10); clear f0 f1; have f0 := blk_frozen (table_Load.three_keep (blk_below hbox hb9) hbox9 (by decide) hw10) 0; have f1 := blk_frozen (table_Load.three_keep (blk_below hbox hb9) hbox9 (by decide) hw10) 1)
   | (refine (hmade _ (h.grow hb)).mono ?_; rintro _ _ ⟨rfl, rfl⟩)
   | (refine (hnum _ cl).mono ?_; rintro _ _ ⟨rfl, rfl⟩)
   | (refine (hnum _ se).mono ?_; rintro _ _ ⟨rfl, rfl⟩))
  have hbox10 := table_Load.three_keep (blk_below hbox hb9) hbox9 (by decide) hw10
  have hB9 := table_Load.three_below (hb.trans (hb9.mono (below_size hb))) (g := g9) (by rw [hg9.out]; exact below_size hb) hw10
  exact bodyPost_ret (table_Load.results_list rfl (by simp only [List.length_cons, List.length_nil]; decide) (.tmp (.cell gr 119 _ _ _ rfl (blk_set (blk_set hbox10 0 (.int .u8 0)) 1 (.slice none 0 0)) Try.underlying119 rfl (by kernel_rfl) (.tmp .nil)))) rfl ⟨⟨0, none, 0, 0, rfl⟩, (hB9.setCell (p := ⟨gr, 0, none⟩) (Nat.le_of_eq hg.out.symm) _).setCell (p := ⟨gr, 1, none⟩) (Nat.le_of_eq hg.out.symm) _⟩

theorem table_Load.tabP : rtab .any (opsOf Try.f88 10) = rtab .any (opsOf Try.f88 10) := rfl
def table_Load.BP : List Nat := [0, 1, 3, 7, 0, 0, 0, 64, 224, 511]
theorem table_Load.bitsP : waitsOk (rtab .any (opsOf Try.f88 10)).2 table_Load.BP = true := by kernel_rfl
theorem table_Load.two_keep {W W1 W2 : World} {g gq : Nat} {cs : Array Value} {t : TypeId} (h : W.heap[g]? = some (.cells cs t (0, 0))) (hb : Below W.heap.size W W1) (hq : W.heap.size ≤ gq) {u v : Value} (e : (W1.setCell ⟨gq, 0, none⟩ u).setCell ⟨gq, 1, none⟩ v = W2) : W2.heap[g]? = some (.cells cs t (0, 0)) := by
 have hg : g ≠ gq := Nat.ne_of_lt (Nat.lt_of_lt_of_le (Array.getElem?_eq_some_iff.1 h).1 hq)
 exact e ▸ blk_far (blk_far (blk_below h hb) hg u) hg v
theorem table_Load.two_below {w0 W W1 : World} {n : Nat} (h : Below n w0 W) {g : Nat} (hg : n ≤ g) {u v : Value} (e : (W.setCell ⟨g, 0, none⟩ u).setCell ⟨g, 1, none⟩ v = W1) : Below n w0 W1 :=
 e ▸ (h.setCell (p := ⟨g, 0, none⟩) hg u).setCell (p := ⟨g, 1, none⟩) hg v
theorem table_Load.Tab.two {w0 W W1 : World} {g b n : Nat} {D : DataW Unit} (h : table_Load.Tab w0 g b n D W) {gr : Nat} {cs : Array Value} (hr : W.heap[gr]? = some (.cells cs 119 (0, 0))) (hw : w0.heap.size ≤ gr) {u v : Value} (e : (W.setCell ⟨gr, 0, none⟩ u).setCell ⟨gr, 1, none⟩ v = W1) : table_Load.Tab w0 g b n D W1 :=
 e ▸ (h.far' hr (by decide) hw 0 u).far' (blk_set hr 0 u) (by decide) hw 1 v
theorem table_Load.Tab.drew {w0 W : World} {g b n : Nat} {D : DataW Unit} (h : table_Load.Tab w0 g b n D W) : table_Load.Tab w0 g b n D W.drew := ⟨h.blk, h.map.drew, h.own, below_drew1 h.below⟩
theorem table_Load.Tab.put {w0 W W1 : World} {g b n m : Nat} {D D1 : DataW Unit} (h : table_Load.Tab w0 g b n D W) (hM : W1.ownsMap Try.prog 3 table_Load.R b m D1) (hG : W.grownBy W1 (some b)) : table_Load.Tab w0 g b m D1 W1 := by
 have hlt : g < W.heap.size := (Array.getElem?_eq_some_iff.1 h.blk).1
 refine ⟨(hG.block g hlt ?_).trans h.blk, hM, h.own, h.below.trans ⟨hG.os, hG.tape, hG.output, hG.size, fun k hk => ?_⟩⟩
 ·rintro e
  obtain ⟨es, ck, hb, _⟩ := h.map
  cases e
  rw [h.blk] at hb
  cases hb
 ·exact hG.block k (Nat.lt_of_lt_of_le hk (below_size h.below)) (fun e => Nat.not_lt_of_le h.own.2 (by cases e; exact hk))
set_option maxHeartbeats 8000000 in
set_option maxRecDepth 100000 in
theorem table_Load.putBad (w0 W : World) (g b n : Nat) (D : DataW Unit) (cl se : Int) (a0 : Int) (v1 : Value) (h : table_Load.Tab w0 g b n D W) (hc : (if table_Load.num cl = true then table_Load.num se else false) = false) :
  Calls Try.prog 88 #[.pointer (some ⟨g, 0, none⟩), .int .i64 cl, .int .i64 se, .agg #[.int .u8 a0, v1]] W fun e W' => e = .returned (.int .i64 5) ∧ Below W.heap.size W W' := by
 have hask := fun w hw => table_Load.askBad w0 w g b n D cl se hw hc
 go_enter Try.func88, Try.ntmps88
 go_wp2_with (first
  | ((with_reducible refine gate_dst (N := 7) rfl ?_); refine box_event ?hg (N := 7) ?hd (cs := #[.int .u8 a0, v1]) (t := 119) ?hr ?_; (case hd => rfl); (case hg => rfl); (case hr => first | (go_simp; done) | (go_simp; rfl)); intro gr hg w3 hbox hb; replace hg := Aside0.mk hg)
  | ((with_reducible refine gate_dst (N := 10) rfl ?_); refine box_event ?hg (N := 10) ?hd (cs := #[.int .u8 0, .slice none 0 0]) (t := 119) ?hr ?_; (case hd => rfl); (case hg => rfl); (case hr => first | (go_simp; done) | (go_simp; rfl)); intro gq hq w5 hbx hbq; replace hq := Aside0.mk hq; obtain ⟨d0, d1⟩ := cells2 hbx; have e0 := blk_frozen hbx 0; have e1 := blk_frozen hbx 1)
  | (refine (hask _ (h.grow hb)).mono ?_; rintro _ W4 ⟨⟨v_, r_, A_, c_, k_, rfl⟩, hb4⟩))
 go_ret
 have hB4 := hb.trans (hb4.mono (below_size hb))
 exact ⟨rfl, table_Load.two_below (hB4.trans (hbq.mono (below_size hB4))) (g := gq) (by rw [hq.out]; exact below_size hB4) rfl⟩
set_option maxHeartbeats 8000000 in
set_option maxRecDepth 100000 in
theorem table_Load.putRes (w0 W : World) (g b n : Nat) (D : DataW Unit) (cl se : Int) (k : Nat) (a0 r : Int) (A1 : Option Addr) (c1 : Nat) (l1 : List Int) (h : table_Load.Tab w0 g b n D W) (q1 : table_Load.num cl = true) (q2 : table_Load.num se = true) (hD : Maps.has D (.int .i64 cl) = false)
  (hr : Kd.C (Kd.int .u8) w0 A1 l1.length l1) (hc : l1.length ≤ c1) (hf : block_Result.f k a0 l1 = some r) (hr0 : r ≠ 0) :
  Calls Try.prog 88 #[.pointer (some ⟨g, 0, none⟩), .int .i64 cl, .int .i64 se, .agg #[.int .u8 a0, .slice A1 l1.length c1]] W fun e W' => e = .returned (.int .i64 60) ∧ Below W.heap.size W W' := by
 have hask := fun w hw => table_Load.askNew w0 w g b n D cl se hw q1 q2 hD
 have hres := fun w hw => block_Result.calls k a0 A1 c1 l1 r w hw hc hf
 have hr1 : (r != 0) = true := bne_iff_ne.2 hr0
 generalize (if Maps.size D = 64 then (4 : Int) else 1) = vv at hask
 go_enter Try.func88, Try.ntmps88
 go_wp2_with (first
  | ((with_reducible refine gate_dst (N := 7) rfl ?_); refine box_event ?hg (N := 7) ?hd (cs := #[.int .u8 a0, .slice A1 l1.length c1]) (t := 119) ?hr ?_; (case hd => rfl); (case hg => rfl); (case hr => first | (go_simp; done) | (go_simp; rfl)); intro gr hg w3 hbox hb; replace hg := Aside0.mk hg)
  | ((with_reducible refine gate_dst (N := 10) rfl ?_); refine box_event ?hg (N := 10) ?hd (cs := #[.int .u8 0, .slice none 0 0]) (t := 119) ?hr ?_; (case hd => rfl); (case hg => rfl); (case hr => first | (go_simp; done) | (go_simp; rfl)); intro gq hq w5 hbx hbq; replace hq := Aside0.mk hq; obtain ⟨d0, d1⟩ := cells2 hbx; have e0 := blk_frozen hbx 0; have e1 := blk_frozen hbx 1; obtain ⟨w6, hw6⟩ : ∃ w6, (w5.setCell ⟨gq, 0, none⟩ (.int .u8 r_)).setCell ⟨gq, 1, none⟩ (.slice A_ c_ k_) = w6 := ⟨_, rfl⟩; have hT6 := table_Load.Tab.two (((h.grow hb).grow hb4).grow hbq) hbx (by rw [hq.out]; exact below_size ((h.grow hb).grow hb4).below) hw6; have hbox6 := table_Load.two_keep hbox (hb4.trans (hbq.mono (below_size hb4))) (by rw [hq.out]; exact below_size hb4) hw6; obtain ⟨b0, b1⟩ := cells2 hbox6; have hB6 := Aside0.mk (table_Load.two_below ((hb.trans (hb4.mono (below_size hb))).trans (hbq.mono (below_size (hb.trans (hb4.mono (below_size hb)))))) (g := gq) (by rw [hq.out]; exact below_size (hb.trans (hb4.mono (below_size hb)))) hw6))
  | (refine (hask _ (h.grow hb)).mono ?_; rintro _ W4 ⟨⟨r_, A_, c_, k_, rfl⟩, hb4⟩)
  | (refine (hres _ (Kd.C_below hr hT6.below)).mono ?_; rintro _ W7 ⟨rfl, hb7⟩))
 go_ret
 exact ⟨rfl, hB6.out.trans (hb7.mono (below_size hB6.out))⟩
set_option maxHeartbeats 8000000 in
set_option maxRecDepth 100000 in
theorem table_Load.putFull (w0 W : World) (g b n : Nat) (D : DataW Unit) (cl se : Int) (k : Nat) (a0 : Int) (A1 : Option Addr) (c1 : Nat) (l1 : List Int) (h : table_Load.Tab w0 g b n D W) (q1 : table_Load.num cl = true) (q2 : table_Load.num se = true) (hD : Maps.has D (.int .i64 cl) = false)
  (hr : Kd.C (Kd.int .u8) w0 A1 l1.length l1) (hc : l1.length ≤ c1) (hf : block_Result.f k a0 l1 = some 0) (hs : Maps.size D = 64) :
  Calls Try.prog 88 #[.pointer (some ⟨g, 0, none⟩), .int .i64 cl, .int .i64 se, .agg #[.int .u8 a0, .slice A1 l1.length c1]] W fun e W' => e = .returned (.int .i64 3) ∧ Below W.heap.size W W' := by
 have hask := fun w hw => table_Load.askNew w0 w g b n D cl se hw q1 q2 hD
 have hres := fun w hw => block_Result.calls k a0 A1 c1 l1 0 w hw hc hf
 rw [if_pos hs] at hask
 go_enter Try.func88, Try.ntmps88
 go_wp2_with (first
  | ((with_reducible refine gate_dst (N := 7) rfl ?_); refine box_event ?hg (N := 7) ?hd (cs := #[.int .u8 a0, .slice A1 l1.length c1]) (t := 119) ?hr ?_; (case hd => rfl); (case hg => rfl); (case hr => first | (go_simp; done) | (go_simp; rfl)); intro gr hg w3 hbox hb; replace hg := Aside0.mk hg)
  | ((with_reducible refine gate_dst (N := 10) rfl ?_); refine box_event ?hg (N := 10) ?hd (cs := #[.int .u8 0, .slice none 0 0]) (t := 119) ?hr ?_; (case hd => rfl); (case hg => rfl); (case hr => first | (go_simp; done) | (go_simp; rfl)); intro gq hq w5 hbx hbq; replace hq := Aside0.mk hq; obtain ⟨d0, d1⟩ := cells2 hbx; have e0 := blk_frozen hbx 0; have e1 := blk_frozen hbx 1; obtain ⟨w6, hw6⟩ : ∃ w6, (w5.setCell ⟨gq, 0, none⟩ (.int .u8 r_)).setCell ⟨gq, 1, none⟩ (.slice A_ c_ k_) = w6 := ⟨_, rfl⟩; have hT6 := table_Load.Tab.two (((h.grow hb).grow hb4).grow hbq) hbx (by rw [hq.out]; exact below_size ((h.grow hb).grow hb4).below) hw6; have hbox6 := table_Load.two_keep hbox (hb4.trans (hbq.mono (below_size hb4))) (by rw [hq.out]; exact below_size hb4) hw6; obtain ⟨b0, b1⟩ := cells2 hbox6; have hB6 := Aside0.mk (table_Load.two_below ((hb.trans (hb4.mono (below_size hb))).trans (hbq.mono (below_size (hb.trans (hb4.mono (below_size hb)))))) (g := gq) (by rw [hq.out]; exact below_size (hb.trans (hb4.mono (below_size hb)))) hw6))
  | (refine (hask _ (h.grow hb)).mono ?_; rintro _ W4 ⟨⟨r_, A_, c_, k_, rfl⟩, hb4⟩)
  | (refine (hres _ (Kd.C_below hr hT6.below)).mono ?_; rintro _ W7 ⟨rfl, hb7⟩))
 go_ret
 exact ⟨rfl, hB6.out.trans (hb7.mono (below_size hB6.out))⟩
set_option maxHeartbeats 8000000 in
set_option maxRecDepth 100000 in
theorem table_Load.putNew (w0 W : World) (g b n : Nat) (D : DataW Unit) (cl se : Int) (k : Nat) (a0 : Int) (A1 : Option Addr) (c1 : Nat) (l1 : List Int) (h : table_Load.Tab w0 g b n D W) (q1 : table_Load.num cl = true) (q2 : table_Load.num se = true) (hD : Maps.has D (.int .i64 cl) = false)
  (hr : Kd.C (Kd.int .u8) w0 A1 l1.length l1) (hc : l1.length ≤ c1) (hf : block_Result.f k a0 l1 = some 0) (hs : Maps.size D ≠ 64) (hn : n < 2 ^ 40) (hl : l1.length ≤ 262144) :
  Calls Try.prog 88 #[.pointer (some ⟨g, 0, none⟩), .int .i64 cl, .int .i64 se, .agg #[.int .u8 a0, .slice A1 l1.length c1]] W fun e W' => e = .returned (.int .i64 0) ∧ table_Load.Tab w0 g b (n + 1) (D.put (.int .i64 cl) (.lit (.bool true))) W' ∧ (∀ k, k < W.heap.size → k ≠ b → W'.heap[k]? = W.heap[k]?) := by
 have hask := fun w hw => table_Load.askNew w0 w g b n D cl se hw q1 q2 hD
 have hres := fun w hw => block_Result.calls k a0 A1 c1 l1 0 w hw hc hf
 rw [if_neg hs] at hask
 have hkey := Aside0.mk (table_Load.key cl q1)
 go_enter Try.func88, Try.ntmps88
 go_wp2_with (first
  | ((with_reducible refine gate_dst (N := 7) rfl ?_); refine box_event ?hg (N := 7) ?hd (cs := #[.int .u8 a0, .slice A1 l1.length c1]) (t := 119) ?hr ?_; (case hd => rfl); (case hg => rfl); (case hr => first | (go_simp; done) | (go_simp; rfl)); intro gr hg w3 hbox hb; replace hg := Aside0.mk hg)
  | ((with_reducible refine gate_dst (N := 10) rfl ?_); refine box_event ?hg (N := 10) ?hd (cs := #[.int .u8 0, .slice none 0 0]) (t := 119) ?hr ?_; (case hd => rfl); (case hg => rfl); (case hr => first | (go_simp; done) | (go_simp; rfl)); intro gq hq w5 hbx hbq; replace hq := Aside0.mk hq; obtain ⟨d0, d1⟩ := cells2 hbx; have e0 := blk_frozen hbx 0; have e1 := blk_frozen hbx 1; obtain ⟨w6, hw6⟩ : ∃ w6, (w5.setCell ⟨gq, 0, none⟩ (.int .u8 r_)).setCell ⟨gq, 1, none⟩ (.slice A_ c_ k_) = w6 := ⟨_, rfl⟩; have hT6 := table_Load.Tab.two (((h.grow hb).grow hb4).grow hbq) hbx (by rw [hq.out]; exact below_size ((h.grow hb).grow hb4).below) hw6; have hbox6 := table_Load.two_keep hbox (hb4.trans (hbq.mono (below_size hb4))) (by rw [hq.out]; exact below_size hb4) hw6; obtain ⟨b0, b1⟩ := cells2 hbox6; have hB6 := Aside0.mk (table_Load.two_below ((hb.trans (hb4.mono (below_size hb))).trans (hbq.mono (below_size (hb.trans (hb4.mono (below_size hb)))))) (g := gq) (by rw [hq.out]; exact below_size (hb.trans (hb4.mono (below_size hb)))) hw6))
  | (refine (hask _ (h.grow hb)).mono ?_; rintro _ W4 ⟨⟨r_, A_, c_, k_, rfl⟩, hb4⟩)
  | (refine (hres _ (Kd.C_below hr hT6.below)).mono ?_; rintro _ W7 ⟨rfl, hb7⟩))
 have hT7 := hT6.grow hb7
 have hB7 := Aside0.mk (hB6.out.trans (hb7.mono (below_size hB6.out)))
 have hbox7 := blk_below hbox6 hb7
 clear h hb hbox hb4 hbx hbq hq d0 d1 e0 e1 hw6 hT6 hbox6 b0 b1 hB6 hb7 hask hres
 refine start_ (n := 10) (S := fun w' => w'.cell? ⟨g, 0, none⟩ = some (.map (some b)) ∧ w'.cell? ⟨gr, 0, none⟩ = some (.int .u8 a0) ∧ w'.cell? ⟨gr, 1, none⟩ = some (.slice A1 l1.length c1)) (ds := [9]) (Array.replicate 10 false) (by kernel_rfl) rfl rfl ⟨(table_Load.cells1 hT7.blk).1, (blk_cell hbox7 0).trans rfl, (blk_cell hbox7 1).trans rfl⟩ (fun hHeld => ?_)
 refine with_tabW table_Load.tabP table_Load.bitsP (fun HT_ HW_ => ?_)
 replace hbox7 := blk_drew hbox7
 replace hT7 : table_Load.Tab w0 g b n D W7.drew := hT7.drew
 replace hB7 := Aside0.mk (below_drew1 hB7.out)
 generalize W7.drew = W8 at hbox7 hT7 hHeld hB7 ⊢
 refine pM 0 34 HT_.out ?_; refine pM 1 35 HT_.out ?_; refine pM 2 36 HT_.out ?_; refine pM 4 38 HT_.out ?_; refine pM 5 39 HT_.out ?_; refine tM 3 37 HT_.out HW_.out hHeld ?_; refine tM 6 40 HT_.out HW_.out hHeld ?_
 refine oM 7 41 HT_.out (fun K hK => ?_)
 refine gM Try.func98 #[.agg #[.int .u8 a0, .slice A1 l1.length c1]] ?_
 refine (table_own.calls a0 A1 c1 l1 a0 l1 _ (Kd.C_below hr hT7.below) hc (by rw [table_own.f, bytes_Clone.f, Option.bind_some, if_pos (by simp only [List.length_nil]; omega)]; rfl)).mono ?_
 rintro e w9 ⟨v9, rfl, hR, hb9⟩
 refine ⟨_, rfl, ?_⟩
 obtain ⟨A9, c9, rfl⟩ := Kd.R_slice hR
 replace hT7 := hT7.grow hb9
 replace hB7 := Aside0.mk (hB7.out.trans (hb9.mono (below_size hB7.out)))
 replace hbox7 := blk_below hbox7 hb9
 refine hK.out _ _ ⟨(table_Load.cells1 hT7.blk).1, (blk_cell hbox7 0).trans rfl, (blk_cell hbox7 1).trans rfl⟩ (fun hHeld => ?_)
 clear hK K
 refine nM 41 ?_; refine pM 8 42 HT_.out ?_
 refine last_ (i := 9) (N := none) #[true, true, true, true, true, true, true, true, true, true] rfl rfl (one_of HT_.out (by kernel_rfl)) (by decide) (fun K hK => ?_)
 obtain ⟨w10, hrun, hM, hG⟩ := hT7.map.update table_Load.law3 Try.underlying148 (by simp only [maxLen]; omega) hkey.out (table_Load.R_mk se a0 A9 l1.length c9)
 refine skip_ (w1 := w10) (by rfl) rfl ?_ ?_
 ·go_simp
 refine hK.out _ _ ?_
 clear hK K
 refine done_ (done_of HT_.out (by kernel_rfl)) ?_
 go_wp2
 go_ret
 exact ⟨rfl, hT7.put hM hG, fun k hk hne => (hG.block k (Nat.lt_of_lt_of_le hk (below_size hB7.out)) (fun e => hne (Option.some.inj e))).trans (hB7.out.block k hk)⟩

def table_Load.may (a : Int) (l : List Int) : Bool := if a = 1 ∨ a = 4 then decide (l.length ≤ 262144) else if a = 2 ∨ a = 3 then decide (l.length = 0) else false
theorem table_Load.res (a : Int) (l : List Int) : block_Result.f 3 a l = some (if table_Load.may a l = true then 0 else 42) := by
 unfold block_Result.f table_Load.may
 by_cases h1 : a = 1
 ·subst h1
  simp [block_Result.j0]
  split <;> simp_all <;> omega
 by_cases h4 : a = 4
 ·subst h4
  simp [block_Result.j0]
  split <;> simp_all <;> omega
 by_cases h2 : a = 2
 ·subst h2
  simp [block_Result.j0, block_Result.j1]
  split <;> simp_all
 by_cases h3 : a = 3
 ·subst h3
  simp [block_Result.j0, block_Result.j1]
  split <;> simp_all
 simp [block_Result.j0, block_Result.j1, h1, h2, h3, h4]
theorem table_Load.may_len {a : Int} {l : List Int} (h : table_Load.may a l = true) : l.length ≤ 262144 := by
 unfold table_Load.may at h
 split at h
 ·exact of_decide_eq_true h
 ·split at h
  ·have := of_decide_eq_true h; omega
  ·cases h
def table_Load.good (n : Nat) (x : S121) : Bool := table_Load.num x.f0 && table_Load.num x.f1 && table_Load.may x.f2.f0 x.f2.f1 && decide (n ≠ 64)
def table_Load.all : Int → Nat → List S121 → Bool
 | _, _, [] => true
 | before, n, x :: l => decide (before < x.f0) && table_Load.good n x && table_Load.all x.f0 (n + 1) l
theorem table_Load.putNo (w0 W : World) (g b n : Nat) (D : DataW Unit) (x : S121) (A1 : Option Addr) (c1 : Nat) (h : table_Load.Tab w0 g b n D W) (hD : Maps.has D (.int .i64 x.f0) = false) (hs : Maps.size D = n)
  (hr : Kd.C (Kd.int .u8) w0 A1 x.f2.f1.length x.f2.f1) (hc : x.f2.f1.length ≤ c1) (hb : table_Load.good n x = false) :
  Calls Try.prog 88 #[.pointer (some ⟨g, 0, none⟩), .int .i64 x.f0, .int .i64 x.f1, .agg #[.int .u8 x.f2.f0, .slice A1 x.f2.f1.length c1]] W fun e W' => (∃ ec : Int, e = .returned (.int .i64 ec) ∧ (ec != 0) = true) ∧ Below W.heap.size W W' := by
 cases q1 : table_Load.num x.f0
 ·refine (table_Load.putBad w0 W g b n D x.f0 x.f1 x.f2.f0 _ h (by rw [q1]; rfl)).mono ?_
  rintro e W' ⟨rfl, h1⟩
  exact ⟨⟨5, rfl, by decide⟩, h1⟩
 cases q2 : table_Load.num x.f1
 ·refine (table_Load.putBad w0 W g b n D x.f0 x.f1 x.f2.f0 _ h (by rw [q1, q2]; rfl)).mono ?_
  rintro e W' ⟨rfl, h1⟩
  exact ⟨⟨5, rfl, by decide⟩, h1⟩
 have hf := table_Load.res x.f2.f0 x.f2.f1
 cases q3 : table_Load.may x.f2.f0 x.f2.f1
 ·rw [q3, if_neg (by decide)] at hf
  refine (table_Load.putRes w0 W g b n D x.f0 x.f1 3 x.f2.f0 42 A1 c1 x.f2.f1 h q1 q2 hD hr hc hf (by decide)).mono ?_
  rintro e W' ⟨rfl, h1⟩
  exact ⟨⟨60, rfl, by decide⟩, h1⟩
 rw [q3, if_pos rfl] at hf
 have hn : Maps.size D = 64 := by
  rw [table_Load.good, q1, q2, q3] at hb
  simp at hb
  omega
 refine (table_Load.putFull w0 W g b n D x.f0 x.f1 3 x.f2.f0 A1 c1 x.f2.f1 h q1 q2 hD hr hc hf hn).mono ?_
 rintro e W' ⟨rfl, h1⟩
 exact ⟨⟨3, rfl, by decide⟩, h1⟩
theorem table_Load.putYes (w0 W : World) (g b n : Nat) (D : DataW Unit) (x : S121) (A1 : Option Addr) (c1 : Nat) (h : table_Load.Tab w0 g b n D W) (hD : Maps.has D (.int .i64 x.f0) = false) (hs : Maps.size D = n) (hn : n ≤ 64)
  (hr : Kd.C (Kd.int .u8) w0 A1 x.f2.f1.length x.f2.f1) (hc : x.f2.f1.length ≤ c1) (hb : table_Load.good n x = true) :
  Calls Try.prog 88 #[.pointer (some ⟨g, 0, none⟩), .int .i64 x.f0, .int .i64 x.f1, .agg #[.int .u8 x.f2.f0, .slice A1 x.f2.f1.length c1]] W fun e W' => e = .returned (.int .i64 0) ∧ table_Load.Tab w0 g b (n + 1) (D.put (.int .i64 x.f0) (.lit (.bool true))) W' ∧ (∀ k, k < W.heap.size → k ≠ b → W'.heap[k]? = W.heap[k]?) := by
 simp only [table_Load.good, Bool.and_eq_true, decide_eq_true_eq] at hb
 obtain ⟨⟨⟨q1, q2⟩, q3⟩, q4⟩ := hb
 have hf := table_Load.res x.f2.f0 x.f2.f1
 rw [q3, if_pos rfl] at hf
 exact table_Load.putNew w0 W g b n D x.f0 x.f1 3 x.f2.f0 A1 c1 x.f2.f1 h q1 q2 hD hr hc hf (by omega) (by omega) (table_Load.may_len q3)
theorem table_Load.box_kept {wr W4 : World} {b : Nat} {cs : Array Value} {t : TypeId} (h : ∀ k, k < (wr.alloc (.cells cs t (0, 0))).heap.size → k ≠ b → W4.heap[k]? = (wr.alloc (.cells cs t (0, 0))).heap[k]?) (hb : wr.heap.size ≠ b) : W4.heap[wr.heap.size]? = some (.cells cs t (0, 0)) :=
 (h wr.heap.size (by simp) hb).trans (blk_new wr _)
theorem table_Load.box_ne {w0 W : World} {g b n : Nat} {D : DataW Unit} (h : table_Load.Tab w0 g b n D W) : W.heap.size ≠ b := by
 rintro e
 have := h.map.lt
 omega
theorem table_Load.keys {D : DataW Unit} {n : Nat} {bf c0 : Int} (hT : Tidy D) (hs : Maps.size D = n) (h : ∀ c, bf < c → Maps.has D (.int .i64 c) = false) (hc : ¬ c0 ≤ bf) :
  Maps.size (D.put (.int .i64 c0) (.lit (.bool true))) = n + 1 ∧ ∀ c, c0 < c → Maps.has (D.put (.int .i64 c0) (.lit (.bool true))) (.int .i64 c) = false := by
 refine ⟨?_, fun c hlt => ?_⟩
 ·rw [Maps.size_put hT, h c0 (by omega), if_neg (by decide), hs]
 ·rw [Maps.has_put_other (by intro e; injection e with _ e; omega)]
  exact h c (by omega)
set_option maxHeartbeats 8000000 in
set_option maxRecDepth 100000 in
theorem table_Load.load (w0 W : World) (A : Option Addr) (c : Nat) (l : List S121) (hW : Below w0.heap.size w0 W) (hr : Kd.C k121 w0 A l.length l) (hc : l.length ≤ c) (hlen : l.length < 2 ^ 48) :
  Calls Try.prog 81 #[.slice A l.length c] W fun e W' => (∃ p, e = .returned (.tuple #[.pointer p, .int .i64 (if table_Load.all 0 0 l = true then 0 else 60)])) ∧ Below w0.heap.size w0 W' := by
 have hnew := fun w hw => table_Load.new w0 w hw
 obtain ⟨ec, hec⟩ : ∃ ec : Int, (if table_Load.all 0 0 l = true then (0 : Int) else 60) = ec := ⟨_, rfl⟩
 rw [hec]
 go_enter Try.func81, Try.ntmps81
 go_wp2_with (first
  | (refine (hnew _ hW).mono ?_; rintro _ W2 ⟨g, b, rfl, hT⟩))
 go_loopw [5, 11] (fun p5 q wr => ∃ (n : Nat) (bf : Int) (D : DataW Unit), p5 = .int .i64 bf ∧ q = .int .i64 (n : Int) ∧ n ≤ l.length ∧ n ≤ 64 ∧ table_Load.Tab w0 g b n D wr ∧ Maps.size D = n ∧ (∀ c, bf < c → Maps.has D (.int .i64 c) = false) ∧ table_Load.all 0 0 l = table_Load.all bf n (l.drop n)) (fun p5 q wr => l.length - (intOf q).toNat)
 case atStart => exact ⟨0, 0, .map [], rfl, rfl, by omega, by omega, hT, rfl, fun _ _ => rfl, rfl⟩
 case round =>
  obtain ⟨n, bf, D, rfl, rfl, hn, hn64, hT', hsz, hlt, hS⟩ := hrel
  clear hT hnew hW
  by_cases e : n < l.length
  ·obtain ⟨ad, A3, c3, eA, h0, h1, h2, h3, hl3, hi3⟩ := at_T121 hr n (by omega) (by omega)
   cases eA
   replace h0 := (hT'.below.cell (World.block_lt_of_cell? w0 _ h0)).trans h0
   replace h1 := (hT'.below.cell (World.block_lt_of_cell? w0 _ h1)).trans h1
   replace h2 := (hT'.below.cell (World.block_lt_of_cell? w0 _ h2)).trans h2
   replace h3 := (hT'.below.cell (World.block_lt_of_cell? w0 _ h3)).trans h3
   have hd : l.drop n = rd_T121 l n :: l.drop (n + 1) := by
    rw [List.drop_eq_getElem_cons e, rd_T121, Int.toNat_natCast, List.getD_eq_getElem?_getD, List.getElem?_eq_getElem e, Option.getD_some]
   obtain ⟨x, hx⟩ : ∃ x, rd_T121 l (n : Int) = x := ⟨_, rfl⟩
   rw [hx] at h0 h1 h2 h3 hl3 hi3 hd
   rw [Int.toNat_natCast] at h0 h1 h2 h3
   rw [hd, table_Load.all] at hS
   replace hi3 := Aside0.mk hi3
   have e1 : decide ((n : Int) < (l.length : Int)) = true := decide_eq_true (by omega)
   have e2 : decide (0 ≤ (n : Int)) = true := decide_eq_true (by omega)
   by_cases c1 : x.f0 ≤ bf
   ·have c1b := decide_eq_true c1
    have hec60 : ec = 60 := by rw [← hec, hS, show decide (bf < x.f0) = false from decide_eq_false (by omega)]; rfl
    subst hec60
    clear hec hS hd hx c1
    go_wp2
    exact bodyPost_ret (results_tmp2 rfl _ _ _) rfl ⟨⟨_, rfl⟩, (hT'.grow (below_alloc (Below.refl _ _) _)).below⟩
   ·have c1b := decide_eq_false c1
    have hlt' := hlt x.f0 (by omega)
    cases c2 : table_Load.good n x
    ·have hec60 : ec = 60 := by rw [← hec, hS, c2]; simp
     have hput := fun w hw => table_Load.putNo w0 w g b n D x A3 c3 hw hlt' hsz hi3.out hl3 c2
     subst hec60
     clear hec hS hd hx c1 c2
     go_wp2_with (first
      | (refine (hput _ (hT'.grow (below_alloc (Below.refl _ _) _))).mono ?_; rintro _ W4 ⟨⟨e_, rfl, he_⟩, hb4⟩))
     exact bodyPost_ret (results_tmp2 rfl _ _ _) rfl ⟨⟨_, rfl⟩, ((hT'.grow (below_alloc (Below.refl _ _) _)).grow hb4).below⟩
    ·have hput := fun w hw => table_Load.putYes w0 w g b n D x A3 c3 hw hlt' hsz hn64 hi3.out hl3 c2
     have hS2 : table_Load.all 0 0 l = table_Load.all x.f0 (n + 1) (l.drop (n + 1)) := by rw [hS, c2, show decide (bf < x.f0) = true from decide_eq_true (by omega)]; rfl
     have hn1 : n ≠ 64 := by
      simp only [table_Load.good, Bool.and_eq_true, decide_eq_true_eq] at c2
      exact c2.2
     have hkeys := table_Load.keys (hT'.map.tidy table_Load.law3) hsz hlt c1
     clear hec hS hd hx c1 c2 hlt hlt'
     go_wp2_with (first
      | (refine (hput _ (hT'.grow (below_alloc (Below.refl _ _) _))).mono ?_; rintro _ W4 ⟨rfl, hT4, hk4⟩; have hx4 := table_Load.box_kept hk4 (table_Load.box_ne hT'); have hx0 := blk_cell hx4 0))
     exact ⟨⟨n + 1, x.f0, _, rfl, rfl, by omega, by omega, hT4, hkeys.1, hkeys.2, hS2⟩, by simp only [intOf]; omega⟩
  ·obtain rfl : n = l.length := by omega
   rw [List.drop_length, table_Load.all] at hS
   have hec0 : ec = 0 := by rw [← hec, hS]; rfl
   subst hec0
   clear hec
   go_wp2
   exact bodyPost_ret (results_tmp2 rfl _ _ _) rfl ⟨⟨_, rfl⟩, hT'.below⟩

def machine_Load.late (num : Int) (l : List S39) : Bool := l.any fun x => decide (num < x.f1)
set_option maxHeartbeats 8000000 in
set_option maxRecDepth 100000 in
theorem machine_Load.late1 (W : World) (x : S39) (v : Value) (gs : Nat) (num : Int) (hs : W.cell? ⟨gs, 0, none⟩ = some (.int .i64 num)) :
  Calls Try.prog 83 #[.agg #[.int .i64 x.f0, .int .i64 x.f1, v], .pointer (some ⟨gs, 0, none⟩)] W fun e W' => e = .returned (.bool (decide (num < x.f1))) ∧ Below W.heap.size W W' := by
 have hlt := World.block_lt_of_cell? W _ hs
 go_enter Try.func83, Try.ntmps83
 go_wp2_with (first | ((with_reducible refine gate_dst (N := 2) rfl ?_); refine box_event ?hg (N := 2) ?hd (cs := #[.int .i64 x.f0, .int .i64 x.f1, v]) (t := 39) ?hr ?_; (case hd => rfl); (case hg => rfl); (case hr => first | (go_simp; done) | (go_simp; rfl)); intro gb hg w3 hbox hb; replace hg := Aside0.mk hg; obtain ⟨b0, b1, b2⟩ := volume_Load.cells3' hbox; have hs3 := (hb.cell hlt).trans hs))
 go_ret
 exact ⟨by first | rfl | simp [gt_iff_lt], hb⟩
set_option maxHeartbeats 8000000 in
set_option maxRecDepth 100000 in
theorem machine_Load.index (w0 W : World) (gs : Nat) (num : Int) (A : Option Addr) (c : Nat) (l : List S39) (hW : Below w0.heap.size w0 W) (hr : Kd.C k39 w0 A l.length l) (hc : l.length ≤ c) (hlen : l.length < 2 ^ 48) (hs : W.cell? ⟨gs, 0, none⟩ = some (.int .i64 num)) :
  Calls Try.prog 89 #[.slice A l.length c, .func (.func 83) #[] #[.pointer (some ⟨gs, 0, none⟩)]] W fun e W' => ∃ r : Int, e = .returned (.int .i64 r) ∧ decide (0 ≤ r) = machine_Load.late num l ∧ Below W.heap.size W W' := by
 have hlt := Aside0.mk (World.block_lt_of_cell? W _ hs)
 go_enter Try.func89, Try.ntmps89
 go_wp2
 go_loopw [8] (fun q wr => ∃ (n : Nat), q = .int .i64 (n : Int) ∧ n ≤ l.length ∧ Below W.heap.size W wr ∧ machine_Load.late num l = machine_Load.late num (l.drop n)) (fun q wr => l.length - (intOf q).toNat)
 case atStart => exact ⟨0, rfl, by omega, Below.refl _ _, rfl⟩
 case round =>
  obtain ⟨n, rfl, hn, hB, hS⟩ := hrel
  by_cases e : n < l.length
  ·obtain ⟨ad, A2, c2, eA, h0, h1, h2, hl2, hi2⟩ := at_T39 hr n (by omega) (by omega)
   cases eA
   have hW2 := hW.trans (hB.mono (below_size hW))
   replace h0 := (hW2.cell (World.block_lt_of_cell? w0 _ h0)).trans h0
   replace h1 := (hW2.cell (World.block_lt_of_cell? w0 _ h1)).trans h1
   replace h2 := (hW2.cell (World.block_lt_of_cell? w0 _ h2)).trans h2
   have hd : l.drop n = rd_T39 l n :: l.drop (n + 1) := by
    rw [List.drop_eq_getElem_cons e, rd_T39, Int.toNat_natCast, List.getD_eq_getElem?_getD, List.getElem?_eq_getElem e, Option.getD_some]
   obtain ⟨x, hx⟩ : ∃ x, rd_T39 l (n : Int) = x := ⟨_, rfl⟩
   rw [hx] at h0 h1 h2 hl2 hi2 hd
   rw [Int.toNat_natCast] at h0 h1 h2
   rw [hd] at hS
   replace hx := Aside0.mk hx
   replace hd := Aside0.mk hd
   replace hS := Aside0.mk hS
   replace hi2 := Aside0.mk hi2
   have e1 : decide ((n : Int) < (l.length : Int)) = true := decide_eq_true (by omega)
   have e2 : decide (0 ≤ (n : Int)) = true := decide_eq_true (by omega)
   have hlaw := machine_Load.late1 wr x (.slice A2 x.f2.length c2) gs num ((hB.cell hlt.out).trans hs)
   clear hs hW hW2
   cases eb : decide (num < x.f1)
   ·rw [eb] at hlaw
    go_wp2_with (refine hlaw.mono ?_; rintro _ W5 ⟨rfl, hb5⟩)
    refine ⟨⟨n + 1, rfl, by omega, hB.trans (hb5.mono (below_size hB)), ?_⟩, ?_⟩
    ·rw [hS.out, machine_Load.late, List.any_cons, eb]; rfl
    ·simp only [intOf]; omega
   ·rw [eb] at hlaw
    go_wp2_with (refine hlaw.mono ?_; rintro _ W5 ⟨rfl, hb5⟩)
    go_ret
    exact ⟨n, rfl, by rw [hS.out, machine_Load.late, List.any_cons, eb, e2]; rfl, hB.trans (hb5.mono (below_size hB))⟩
  ·obtain rfl : n = l.length := by omega
   clear hs hW
   go_wp2
   rw [List.drop_length] at hS
   go_ret
   exact ⟨-1, rfl, by rw [hS]; rfl, hB⟩
set_option maxHeartbeats 8000000 in
set_option maxRecDepth 100000 in
theorem machine_Load.contains (w0 W : World) (gs : Nat) (num : Int) (A : Option Addr) (c : Nat) (l : List S39) (hW : Below w0.heap.size w0 W) (hr : Kd.C k39 w0 A l.length l) (hc : l.length ≤ c) (hlen : l.length < 2 ^ 48) (hs : W.cell? ⟨gs, 0, none⟩ = some (.int .i64 num)) :
  Calls Try.prog 82 #[.slice A l.length c, .func (.func 83) #[] #[.pointer (some ⟨gs, 0, none⟩)]] W fun e W' => e = .returned (.bool (machine_Load.late num l)) ∧ Below W.heap.size W W' := by
 have hlaw := machine_Load.index w0 W gs num A c l hW hr hc hlen hs
 clear hW hr hc hlen hs
 go_enter Try.func82, Try.ntmps82
 go_wp2_with (refine hlaw.mono ?_; rintro _ W5 ⟨r, rfl, hr5, hV5⟩)
 go_ret
 exact ⟨by rw [← hr5]; rfl, hV5⟩
def machine_Load.volOk (a1 a2 : Int) (l : List S39) : Bool := decide (1 ≤ a1 ∧ a1 ≤ 4096 ∧ 1 ≤ a2 ∧ a2 ≤ 4096) && volume_Load.laidAll a1.toNat a2.toNat (-1) l
theorem machine_Load.vol (w0 W : World) (a1 a2 : Int) (A : Option Addr) (c : Nat) (l : List S39) (hW : Below w0.heap.size w0 W) (hr : Kd.C k39 w0 A l.length l) (hc : l.length ≤ c) (hlen : l.length < 2 ^ 48) :
  Calls Try.prog 80 #[.agg #[.int .i64 a1, .int .i64 a2], .slice A l.length c] W fun e W' => (∃ p, ∃ ev : Int, e = .returned (.tuple #[.pointer p, .int .i64 ev]) ∧ (ev != 0) = !machine_Load.volOk a1 a2 l) ∧ Below w0.heap.size w0 W' := by
 by_cases h : 1 ≤ a1 ∧ a1 ≤ 4096 ∧ 1 ≤ a2 ∧ a2 ≤ 4096
 ·have hh := volume_Load.loadGood w0 W a1.toNat a2.toNat A c l hW hr hc hlen (by omega) (by omega)
  rw [Int.toNat_of_nonneg (by omega), Int.toNat_of_nonneg (by omega)] at hh
  refine hh.mono ?_
  rintro e W' ⟨⟨p, rfl⟩, hb⟩
  refine ⟨⟨p, _, rfl, ?_⟩, hb⟩
  rw [machine_Load.volOk, decide_eq_true h]
  cases volume_Load.laidAll a1.toNat a2.toNat (-1) l <;> rfl
 ·have hs : block_Shape.f a1 a2 = some 40 := by
   rw [block_Shape.f]
   repeat' split
   all_goals first | rfl | (exfalso; omega)
  refine (volume_Load.loadBad w0 W a1 a2 _ hW hs).mono ?_
  rintro e W' ⟨⟨p, rfl⟩, hb⟩
  refine ⟨⟨p, _, rfl, ?_⟩, hb⟩
  rw [machine_Load.volOk, decide_eq_false h]
  rfl
theorem machine_Load.tab (w0 W : World) (A : Option Addr) (c : Nat) (l : List S121) (hW : Below w0.heap.size w0 W) (hr : Kd.C k121 w0 A l.length l) (hc : l.length ≤ c) (hlen : l.length < 2 ^ 48) :
  Calls Try.prog 81 #[.slice A l.length c] W fun e W' => (∃ p, ∃ ev : Int, e = .returned (.tuple #[.pointer p, .int .i64 ev]) ∧ (ev != 0) = !table_Load.all 0 0 l) ∧ Below w0.heap.size w0 W' := by
 refine (table_Load.load w0 W A c l hW hr hc hlen).mono ?_
 rintro e W' ⟨⟨p, rfl⟩, hb⟩
 refine ⟨⟨p, _, rfl, ?_⟩, hb⟩
 cases table_Load.all 0 0 l <;> rfl
def machine_Load.ok (a0 a1 a2 : Int) (l3 : List S39) (l4 : List S121) (grp : Bool) : Bool :=
 if a0 < 0 then false else if 4611686018427387904 < a0 then false else if grp = false then false else if machine_Load.volOk a1 a2 l3 = false then false else if table_Load.all 0 0 l4 = false then false else !machine_Load.late a0 l3
theorem machine_Load.cells7 {w : World} {gr : Nat} {t : TypeId} {a b c d e f h : Value} (hq : w.heap[gr]? = some (.cells #[a, b, c, d, e, f, h] t (0, 0))) : w.cell? ⟨gr, 0, none⟩ = some a ∧ w.cell? ⟨gr, 1, none⟩ = some b ∧ w.cell? ⟨gr, 2, none⟩ = some c ∧ w.cell? ⟨gr, 3, none⟩ = some d ∧ w.cell? ⟨gr, 4, none⟩ = some e ∧ w.cell? ⟨gr, 5, none⟩ = some f ∧ w.cell? ⟨gr, 6, none⟩ = some h :=
 ⟨blk_cell hq 0, blk_cell hq 1, blk_cell hq 2, blk_cell hq 3, blk_cell hq 4, blk_cell hq 5, blk_cell hq 6⟩
theorem machine_Load.tabH : rtab .any (opsOf Try.f73 7) = rtab .any (opsOf Try.f73 7) := rfl
def machine_Load.BH : List Nat := [0, 1, 0, 0, 0, 16, 48, 127, 255, 511, 1023]
theorem machine_Load.bitsH : waitsOk (rtab .any (opsOf Try.f73 7)).2 machine_Load.BH = true := by kernel_rfl
set_option maxHeartbeats 8000000 in
set_option maxRecDepth 100000 in
theorem machine_Load.held (w0 W : World) (k : Nat) (a0 a1 a2 : Int) (A3 : Option Addr) (c3 : Nat) (l3 : List S39) (A4 : Option Addr) (c4 : Nat) (l4 : List S121) (a5 : Int) (A6 : Option Addr) (c6 : Nat) (l6 : List Int) (rg : Int)
  (hr3 : Kd.C k39 w0 A3 l3.length l3) (hc3 : l3.length ≤ c3) (hr4 : Kd.C k121 w0 A4 l4.length l4) (hc4 : l4.length ≤ c4) (hr6 : Kd.C (Kd.int .i64) w0 A6 l6.length l6) (hc6 : l6.length ≤ c6)
  (hl3 : l3.length < 2 ^ 48) (hl4 : l4.length < 2 ^ 48) (hl6 : l6.length < 17592186044416) (hg : machine_Group.f k a5 l6 = some rg) (hW : Below w0.heap.size w0 W) :
  Calls Try.prog 73 #[.agg #[.int .i64 a0, .int .i64 a1, .int .i64 a2, .slice A3 l3.length c3, .slice A4 l4.length c4, .int .i64 a5, .slice A6 l6.length c6]] W fun e W' => (∃ p, e = .returned (.tuple #[.pointer p, .bool (machine_Load.ok a0 a1 a2 l3 l4 (rg == 0))])) ∧ Below w0.heap.size w0 W' := by
 have hgrp := fun w hw => machine_Group.calls k a5 A6 c6 l6 rg w hw hc6 hg
 by_cases q1 : a0 < 0
 ·have q1b := decide_eq_true q1
  have H := Aside0.mk (show machine_Load.ok a0 a1 a2 l3 l4 (rg == 0) = false by rw [machine_Load.ok, if_pos q1])
  clear q1
  go_enter Try.func73, Try.ntmps73
  go_wp2_with (first
   | ((with_reducible refine gate_dst (N := 1) rfl ?_); refine box_event ?hg (N := 1) ?hd (cs := #[.int .i64 a0, .int .i64 a1, .int .i64 a2, .slice A3 l3.length c3, .slice A4 l4.length c4, .int .i64 a5, .slice A6 l6.length c6]) (t := 69) ?hr ?_; (case hd => rfl); (case hg => rfl); (case hr => first | (go_simp; done) | (go_simp; rfl)); intro gs hgs w3 hbox hb; replace hgs := Aside0.mk hgs; obtain ⟨b0, b1, b2, b3, b4, b5, b6⟩ := machine_Load.cells7 hbox; have hB := Aside0.mk (below_step hW hb)))
  rw [H.out]
  exact bodyPost_ret (results_tmp2 rfl _ _ _) rfl ⟨⟨_, rfl⟩, hB.out⟩
 have q1b := decide_eq_false q1
 by_cases q2 : 4611686018427387904 < a0
 ·have q2b := decide_eq_true q2
  have H := Aside0.mk (show machine_Load.ok a0 a1 a2 l3 l4 (rg == 0) = false by rw [machine_Load.ok, if_neg q1, if_pos q2])
  clear q1 q2
  go_enter Try.func73, Try.ntmps73
  go_wp2_with (first
   | ((with_reducible refine gate_dst (N := 1) rfl ?_); refine box_event ?hg (N := 1) ?hd (cs := #[.int .i64 a0, .int .i64 a1, .int .i64 a2, .slice A3 l3.length c3, .slice A4 l4.length c4, .int .i64 a5, .slice A6 l6.length c6]) (t := 69) ?hr ?_; (case hd => rfl); (case hg => rfl); (case hr => first | (go_simp; done) | (go_simp; rfl)); intro gs hgs w3 hbox hb; replace hgs := Aside0.mk hgs; obtain ⟨b0, b1, b2, b3, b4, b5, b6⟩ := machine_Load.cells7 hbox; have hB := Aside0.mk (below_step hW hb)))
  rw [H.out]
  exact bodyPost_ret (results_tmp2 rfl _ _ _) rfl ⟨⟨_, rfl⟩, hB.out⟩
 have q2b := decide_eq_false q2
 by_cases q3 : rg = 0
 rotate_left
 ·have q3b : (rg != 0) = true := bne_iff_ne.2 q3
  have H := Aside0.mk (show machine_Load.ok a0 a1 a2 l3 l4 (rg == 0) = false by rw [machine_Load.ok, if_neg q1, if_neg q2, if_pos (beq_eq_false_iff_ne.2 q3)])
  clear q1 q2 q3
  go_enter Try.func73, Try.ntmps73
  go_wp2_with (first
   | ((with_reducible refine gate_dst (N := 1) rfl ?_); refine box_event ?hg (N := 1) ?hd (cs := #[.int .i64 a0, .int .i64 a1, .int .i64 a2, .slice A3 l3.length c3, .slice A4 l4.length c4, .int .i64 a5, .slice A6 l6.length c6]) (t := 69) ?hr ?_; (case hd => rfl); (case hg => rfl); (case hr => first | (go_simp; done) | (go_simp; rfl)); intro gs hgs w3 hbox hb; replace hgs := Aside0.mk hgs; obtain ⟨b0, b1, b2, b3, b4, b5, b6⟩ := machine_Load.cells7 hbox; have hB := Aside0.mk (below_step hW hb))
   | (refine (hgrp _ (Kd.C_below hr6 hB.out)).mono ?_; rintro _ W4 ⟨rfl, hb4⟩; replace hB := Aside0.mk (below_step hB.out hb4); replace hbox := blk_below hbox hb4; clear b0 b1 b2 b3 b4 b5 b6; obtain ⟨b0, b1, b2, b3, b4, b5, b6⟩ := machine_Load.cells7 hbox))
  rw [H.out]
  exact bodyPost_ret (results_tmp2 rfl _ _ _) rfl ⟨⟨_, rfl⟩, hB.out⟩
 subst q3
 have q3 : ¬ (((0 : Int) == 0) = false) := by decide
 cases hvo : machine_Load.volOk a1 a2 l3
 ·have H := Aside0.mk (show machine_Load.ok a0 a1 a2 l3 l4 ((0 : Int) == 0) = false by rw [machine_Load.ok, if_neg q1, if_neg q2, if_neg q3, if_pos hvo])
  cases hto : table_Load.all 0 0 l4
  all_goals
   clear q1 q2 q3
   go_enter Try.func73, Try.ntmps73
   go_wp2_with (first
    | ((with_reducible refine gate_dst (N := 1) rfl ?_); refine box_event ?hg (N := 1) ?hd (cs := #[.int .i64 a0, .int .i64 a1, .int .i64 a2, .slice A3 l3.length c3, .slice A4 l4.length c4, .int .i64 a5, .slice A6 l6.length c6]) (t := 69) ?hr ?_; (case hd => rfl); (case hg => rfl); (case hr => first | (go_simp; done) | (go_simp; rfl)); intro gs hgs w3 hbox hb; replace hgs := Aside0.mk hgs; obtain ⟨b0, b1, b2, b3, b4, b5, b6⟩ := machine_Load.cells7 hbox; have hB := Aside0.mk (below_step hW hb))
    | (refine (hgrp _ (Kd.C_below hr6 hB.out)).mono ?_; rintro _ W4 ⟨rfl, hb4⟩; replace hB := Aside0.mk (below_step hB.out hb4); replace hbox := blk_below hbox hb4; clear b0 b1 b2 b3 b4 b5 b6; obtain ⟨b0, b1, b2, b3, b4, b5, b6⟩ := machine_Load.cells7 hbox)
    | (refine (machine_Load.vol _ _ a1 a2 A3 c3 l3 (Below.refl _ _) (Kd.C_below hr3 hB.out) hc3 hl3).mono ?_; rintro _ W5 ⟨⟨p5, ev5, rfl, hv5⟩, hb5⟩; rw [hvo] at hv5; replace hB := Aside0.mk (below_step hB.out hb5); replace hbox := blk_below hbox hb5; clear b0 b1 b2 b3 b4 b5 b6; obtain ⟨b0, b1, b2, b3, b4, b5, b6⟩ := machine_Load.cells7 hbox)
    | (refine (machine_Load.tab _ _ A4 c4 l4 (Below.refl _ _) (Kd.C_below hr4 hB.out) hc4 hl4).mono ?_; rintro _ W6 ⟨⟨p6, ev6, rfl, hv6⟩, hb6⟩; rw [hto] at hv6; replace hB := Aside0.mk (below_step hB.out hb6); replace hbox := blk_below hbox hb6; clear b0 b1 b2 b3 b4 b5 b6; obtain ⟨b0, b1, b2, b3, b4, b5, b6⟩ := machine_Load.cells7 hbox))
   rw [H.out]
   exact bodyPost_ret (results_tmp2 rfl _ _ _) rfl ⟨⟨_, rfl⟩, hB.out⟩
 have v3 : ¬ (machine_Load.volOk a1 a2 l3 = false) := by rw [hvo]; decide
 cases hto : table_Load.all 0 0 l4
 ·have H := Aside0.mk (show machine_Load.ok a0 a1 a2 l3 l4 ((0 : Int) == 0) = false by rw [machine_Load.ok, if_neg q1, if_neg q2, if_neg q3, if_neg v3, if_pos hto])
  clear q1 q2 q3 v3
  go_enter Try.func73, Try.ntmps73
  go_wp2_with (first
   | ((with_reducible refine gate_dst (N := 1) rfl ?_); refine box_event ?hg (N := 1) ?hd (cs := #[.int .i64 a0, .int .i64 a1, .int .i64 a2, .slice A3 l3.length c3, .slice A4 l4.length c4, .int .i64 a5, .slice A6 l6.length c6]) (t := 69) ?hr ?_; (case hd => rfl); (case hg => rfl); (case hr => first | (go_simp; done) | (go_simp; rfl)); intro gs hgs w3 hbox hb; replace hgs := Aside0.mk hgs; obtain ⟨b0, b1, b2, b3, b4, b5, b6⟩ := machine_Load.cells7 hbox; have hB := Aside0.mk (below_step hW hb))
   | (refine (hgrp _ (Kd.C_below hr6 hB.out)).mono ?_; rintro _ W4 ⟨rfl, hb4⟩; replace hB := Aside0.mk (below_step hB.out hb4); replace hbox := blk_below hbox hb4; clear b0 b1 b2 b3 b4 b5 b6; obtain ⟨b0, b1, b2, b3, b4, b5, b6⟩ := machine_Load.cells7 hbox)
   | (refine (machine_Load.vol _ _ a1 a2 A3 c3 l3 (Below.refl _ _) (Kd.C_below hr3 hB.out) hc3 hl3).mono ?_; rintro _ W5 ⟨⟨p5, ev5, rfl, hv5⟩, hb5⟩; rw [hvo] at hv5; replace hB := Aside0.mk (below_step hB.out hb5); replace hbox := blk_below hbox hb5; clear b0 b1 b2 b3 b4 b5 b6; obtain ⟨b0, b1, b2, b3, b4, b5, b6⟩ := machine_Load.cells7 hbox)
   | (refine (machine_Load.tab _ _ A4 c4 l4 (Below.refl _ _) (Kd.C_below hr4 hB.out) hc4 hl4).mono ?_; rintro _ W6 ⟨⟨p6, ev6, rfl, hv6⟩, hb6⟩; rw [hto] at hv6; replace hB := Aside0.mk (below_step hB.out hb6); replace hbox := blk_below hbox hb6; clear b0 b1 b2 b3 b4 b5 b6; obtain ⟨b0, b1, b2, b3, b4, b5, b6⟩ := machine_Load.cells7 hbox))
  rw [H.out]
  exact bodyPost_ret (results_tmp2 rfl _ _ _) rfl ⟨⟨_, rfl⟩, hB.out⟩
 have t3 : ¬ (table_Load.all 0 0 l4 = false) := by rw [hto]; decide
 cases hla : machine_Load.late a0 l3
 rotate_left
 ·have H := Aside0.mk (show machine_Load.ok a0 a1 a2 l3 l4 ((0 : Int) == 0) = false by rw [machine_Load.ok, if_neg q1, if_neg q2, if_neg q3, if_neg v3, if_neg t3, hla]; rfl)
  clear q1 q2 q3 v3 t3
  go_enter Try.func73, Try.ntmps73
  go_wp2_with (first
   | ((with_reducible refine gate_dst (N := 1) rfl ?_); refine box_event ?hg (N := 1) ?hd (cs := #[.int .i64 a0, .int .i64 a1, .int .i64 a2, .slice A3 l3.length c3, .slice A4 l4.length c4, .int .i64 a5, .slice A6 l6.length c6]) (t := 69) ?hr ?_; (case hd => rfl); (case hg => rfl); (case hr => first | (go_simp; done) | (go_simp; rfl)); intro gs hgs w3 hbox hb; replace hgs := Aside0.mk hgs; obtain ⟨b0, b1, b2, b3, b4, b5, b6⟩ := machine_Load.cells7 hbox; have hB := Aside0.mk (below_step hW hb))
   | (refine (hgrp _ (Kd.C_below hr6 hB.out)).mono ?_; rintro _ W4 ⟨rfl, hb4⟩; replace hB := Aside0.mk (below_step hB.out hb4); replace hbox := blk_below hbox hb4; clear b0 b1 b2 b3 b4 b5 b6; obtain ⟨b0, b1, b2, b3, b4, b5, b6⟩ := machine_Load.cells7 hbox)
   | (refine (machine_Load.vol _ _ a1 a2 A3 c3 l3 (Below.refl _ _) (Kd.C_below hr3 hB.out) hc3 hl3).mono ?_; rintro _ W5 ⟨⟨p5, ev5, rfl, hv5⟩, hb5⟩; rw [hvo] at hv5; replace hB := Aside0.mk (below_step hB.out hb5); replace hbox := blk_below hbox hb5; clear b0 b1 b2 b3 b4 b5 b6; obtain ⟨b0, b1, b2, b3, b4, b5, b6⟩ := machine_Load.cells7 hbox)
   | (refine (machine_Load.tab _ _ A4 c4 l4 (Below.refl _ _) (Kd.C_below hr4 hB.out) hc4 hl4).mono ?_; rintro _ W6 ⟨⟨p6, ev6, rfl, hv6⟩, hb6⟩; rw [hto] at hv6; replace hB := Aside0.mk (below_step hB.out hb6); replace hbox := blk_below hbox hb6; clear b0 b1 b2 b3 b4 b5 b6; obtain ⟨b0, b1, b2, b3, b4, b5, b6⟩ := machine_Load.cells7 hbox)
   | (refine (machine_Load.contains _ _ gs a0 A3 c3 l3 (Below.refl _ _) (Kd.C_below hr3 hB.out) hc3 hl3 b0).mono ?_; rintro _ W7 ⟨rfl, hb7⟩; rw [hla]; replace hB := Aside0.mk (below_step hB.out hb7); replace hbox := blk_below hbox hb7; clear b0 b1 b2 b3 b4 b5 b6; obtain ⟨b0, b1, b2, b3, b4, b5, b6⟩ := machine_Load.cells7 hbox))
  rw [H.out]
  exact bodyPost_ret (results_tmp2 rfl _ _ _) rfl ⟨⟨_, rfl⟩, hB.out⟩
 have H := Aside0.mk (show machine_Load.ok a0 a1 a2 l3 l4 ((0 : Int) == 0) = true by rw [machine_Load.ok, if_neg q1, if_neg q2, if_neg q3, if_neg v3, if_neg t3, hla]; rfl)
 clear q1 q2 q3 v3 t3
 go_enter Try.func73, Try.ntmps73
 go_wp2_with (first
  | ((with_reducible refine gate_dst (N := 1) rfl ?_); refine box_event ?hg (N := 1) ?hd (cs := #[.int .i64 a0, .int .i64 a1, .int .i64 a2, .slice A3 l3.length c3, .slice A4 l4.length c4, .int .i64 a5, .slice A6 l6.length c6]) (t := 69) ?hr ?_; (case hd => rfl); (case hg => rfl); (case hr => first | (go_simp; done) | (go_simp; rfl)); intro gs hgs w3 hbox hb; replace hgs := Aside0.mk hgs; obtain ⟨b0, b1, b2, b3, b4, b5, b6⟩ := machine_Load.cells7 hbox; have hB := Aside0.mk (below_step hW hb))
  | (refine (hgrp _ (Kd.C_below hr6 hB.out)).mono ?_; rintro _ W4 ⟨rfl, hb4⟩; replace hB := Aside0.mk (below_step hB.out hb4); replace hbox := blk_below hbox hb4; clear b0 b1 b2 b3 b4 b5 b6; obtain ⟨b0, b1, b2, b3, b4, b5, b6⟩ := machine_Load.cells7 hbox)
  | (refine (machine_Load.vol _ _ a1 a2 A3 c3 l3 (Below.refl _ _) (Kd.C_below hr3 hB.out) hc3 hl3).mono ?_; rintro _ W5 ⟨⟨p5, ev5, rfl, hv5⟩, hb5⟩; rw [hvo] at hv5; replace hB := Aside0.mk (below_step hB.out hb5); replace hbox := blk_below hbox hb5; clear b0 b1 b2 b3 b4 b5 b6; obtain ⟨b0, b1, b2, b3, b4, b5, b6⟩ := machine_Load.cells7 hbox)
  | (refine (machine_Load.tab _ _ A4 c4 l4 (Below.refl _ _) (Kd.C_below hr4 hB.out) hc4 hl4).mono ?_; rintro _ W6 ⟨⟨p6, ev6, rfl, hv6⟩, hb6⟩; rw [hto] at hv6; replace hB := Aside0.mk (below_step hB.out hb6); replace hbox := blk_below hbox hb6; clear b0 b1 b2 b3 b4 b5 b6; obtain ⟨b0, b1, b2, b3, b4, b5, b6⟩ := machine_Load.cells7 hbox)
  | (refine (machine_Load.contains _ _ gs a0 A3 c3 l3 (Below.refl _ _) (Kd.C_below hr3 hB.out) hc3 hl3 b0).mono ?_; rintro _ W7 ⟨rfl, hb7⟩; rw [hla]; replace hB := Aside0.mk (below_step hB.out hb7); replace hbox := blk_below hbox hb7; clear b0 b1 b2 b3 b4 b5 b6; obtain ⟨b0, b1, b2, b3, b4, b5, b6⟩ := machine_Load.cells7 hbox))
 replace hB := hB.out
 clear hgs hb hb4 hb5 hb6 hb7 hvo hto hla hv5 hv6 hgrp hg q1b q2b
 refine start_ (n := 11) (S := fun w' => w'.cell? ⟨gs, 0, none⟩ = some (.int .i64 a0) ∧ w'.cell? ⟨gs, 5, none⟩ = some (.int .i64 a5) ∧ w'.cell? ⟨gs, 6, none⟩ = some (.slice A6 l6.length c6)) (ds := []) (Array.replicate 11 false) (by kernel_rfl) rfl rfl ⟨b0, b5, b6⟩ (fun hHeld => ?_)
 refine with_tabW machine_Load.tabH machine_Load.bitsH (fun HT_ HW_ => ?_)
 clear b0 b1 b2 b3 b4 b5 b6
 replace hbox := blk_drew hbox
 replace hB := below_drew1 hB
 generalize W7.drew = W8 at hbox hB hHeld ⊢
 refine pM 0 48 HT_.out ?_; refine pM 2 50 HT_.out ?_; refine pM 3 51 HT_.out ?_; refine pM 4 52 HT_.out ?_; refine tM 1 49 HT_.out HW_.out hHeld ?_; refine tM 5 53 HT_.out HW_.out hHeld ?_
 refine oM 6 54 HT_.out (fun K hK => ?_)
 refine gM Try.func84 #[.agg #[.int .i64 a5, .slice A6 l6.length c6]] ?_
 refine (machine_own.calls a5 A6 c6 l6 a5 l6 _ (Kd.C_below hr6 hB) hc6 (by rw [machine_own.f, slices_Clone_int_int.f, Option.bind_some, if_pos (by simp only [List.length_nil]; omega)]; rfl)).mono ?_
 rintro e w9 ⟨v9, rfl, hR, hb9⟩
 refine ⟨_, rfl, ?_⟩
 replace hbox := blk_below hbox hb9
 replace hB := below_step hB hb9
 obtain ⟨A9, c9, rfl⟩ := Kd.R_slice hR
 clear hR hb9
 refine hK.out _ _ ⟨(blk_cell hbox 0).trans rfl, (blk_cell hbox 5).trans rfl, (blk_cell hbox 6).trans rfl⟩ (fun hHeld => ?_)
 clear hK K
 refine nM 54 ?_; refine pM 7 55 HT_.out ?_
 refine oM 8 56 HT_.out (fun K hK => ?_)
 refine box_step ?hg (N := 56) ?hd (cs := #[.int .i64 a0, .pointer p5, .pointer p6, .int .i64 a5, .slice A9 l6.length c9]) (t := 135) ?hr ?_; (case hd => rfl); (case hg => rfl); (case hr => first | (go_simp; done) | (go_simp; rfl))
 intro gv hgv wv hbv hBv
 replace hbox := blk_below hbox hBv
 replace hB := below_step hB hBv
 clear hgv hbv hBv
 refine hK.out _ _ ⟨(blk_cell hbox 0).trans rfl, (blk_cell hbox 5).trans rfl, (blk_cell hbox 6).trans rfl⟩ (fun hHeld => ?_)
 clear hK K
 refine nM 56 ?_; refine pM 9 2 HT_.out ?_; refine pM 10 3 HT_.out ?_
 refine done_ (done_of HT_.out (by kernel_rfl)) ?_
 go_wp2
 rw [H.out]
 exact bodyPost_ret (results_tmp2 rfl _ _ _) rfl ⟨⟨_, rfl⟩, hB⟩
set_option maxHeartbeats 8000000 in
set_option maxRecDepth 100000 in
theorem machine_Load.calls (w : World) (k : Nat) (a0 a1 a2 : Int) (A3 : Option Addr) (c3 : Nat) (l3 : List S39) (A4 : Option Addr) (c4 : Nat) (l4 : List S121) (a5 : Int) (A6 : Option Addr) (c6 : Nat) (l6 : List Int) (rg : Int)
  (hr3 : Kd.C k39 w A3 l3.length l3) (hc3 : l3.length ≤ c3) (hr4 : Kd.C k121 w A4 l4.length l4) (hc4 : l4.length ≤ c4) (hr6 : Kd.C (Kd.int .i64) w A6 l6.length l6) (hc6 : l6.length ≤ c6)
  (hl3 : l3.length < 2 ^ 48) (hl4 : l4.length < 2 ^ 48) (hl6 : l6.length < 17592186044416) (hg : machine_Group.f k a5 l6 = some rg) :
  Calls Try.prog 59 #[.agg #[.int .i64 a0, .int .i64 a1, .int .i64 a2, .slice A3 l3.length c3, .slice A4 l4.length c4, .int .i64 a5, .slice A6 l6.length c6]] w fun e W' => (∃ p, e = .returned (.tuple #[.pointer p, .int .i64 (if machine_Load.ok a0 a1 a2 l3 l4 (rg == 0) = true then 0 else 72)])) ∧ Below w.heap.size w W' := by
 cases q : machine_Load.ok a0 a1 a2 l3 l4 (rg == 0)
 ·rw [if_neg (by decide)]
  go_enter Try.func59, Try.ntmps59
  go_wp2_with (first
   | ((with_reducible refine gate_dst (N := 1) rfl ?_); refine box_event ?hg (N := 1) ?hd (cs := #[.int .i64 a0, .int .i64 a1, .int .i64 a2, .slice A3 l3.length c3, .slice A4 l4.length c4, .int .i64 a5, .slice A6 l6.length c6]) (t := 69) ?hr ?_; (case hd => rfl); (case hg => rfl); (case hr => first | (go_simp; done) | (go_simp; rfl)); intro gs hgs w3 hbox hb; replace hgs := Aside0.mk hgs; obtain ⟨b0, b1, b2, b3, b4, b5, b6⟩ := machine_Load.cells7 hbox; have hB := Aside0.mk hb)
   | (refine (machine_Load.held w _ k a0 a1 a2 A3 c3 l3 A4 c4 l4 a5 A6 c6 l6 rg hr3 hc3 hr4 hc4 hr6 hc6 hl3 hl4 hl6 hg hB.out).mono ?_; rintro _ W4 ⟨⟨p4, rfl⟩, hb4⟩; rw [q]; replace hB := Aside0.mk hb4))
  exact bodyPost_ret (results_tmp2 rfl _ _ _) rfl ⟨⟨_, rfl⟩, hB.out⟩
 ·rw [if_pos rfl]
  go_enter Try.func59, Try.ntmps59
  go_wp2_with (first
   | ((with_reducible refine gate_dst (N := 1) rfl ?_); refine box_event ?hg (N := 1) ?hd (cs := #[.int .i64 a0, .int .i64 a1, .int .i64 a2, .slice A3 l3.length c3, .slice A4 l4.length c4, .int .i64 a5, .slice A6 l6.length c6]) (t := 69) ?hr ?_; (case hd => rfl); (case hg => rfl); (case hr => first | (go_simp; done) | (go_simp; rfl)); intro gs hgs w3 hbox hb; replace hgs := Aside0.mk hgs; obtain ⟨b0, b1, b2, b3, b4, b5, b6⟩ := machine_Load.cells7 hbox; have hB := Aside0.mk hb)
   | (refine (machine_Load.held w _ k a0 a1 a2 A3 c3 l3 A4 c4 l4 a5 A6 c6 l6 rg hr3 hc3 hr4 hc4 hr6 hc6 hl3 hl4 hl6 hg hB.out).mono ?_; rintro _ W4 ⟨⟨p4, rfl⟩, hb4⟩; rw [q]; replace hB := Aside0.mk hb4))
  exact bodyPost_ret (results_tmp2 rfl _ _ _) rfl ⟨⟨_, rfl⟩, hB.out⟩

end Go.Proofs.Ytbmmddngadnofaa.F
