-- Written by ext (this session's own program).
-- in short rows (short.py)
import Derived.Test.YtbmmddngadnofaaFx0
import Derived.Deep.QuietTactic
import Derived.BigQuiet
namespace Go.Proofs.Ytbmmddngadnofaa.F
open Go.RowKit Go.Proofs.YtbmmddngadnofaaW.PrintWords Go.Proofs.YtbmmddngadnofaaW.PrintLast Go.Proofs.YtbmmddngadnofaaW.PrintMore
attribute [local go_sem] max2_int min2_int max_two min_two max_three min_three max_four min_four   -- for this text's walks alone
set_option linter.unusedVariables false
set_option linter.unusedSimpArgs false

/-! ### plinthref05_Laid: function 61 -/
def plinthref05_Laid.row (a0 a1 p : Int) (i : Nat) (x : S39) : Bool :=
 if x.f0 < 0 then false else if a0 ≤ x.f0 then false else if 0 < i ∧ x.f0 ≤ p then false else if x.f1 < 1 then false else if 4611686018427387904 < x.f1 then false else decide ((x.f2.length : Int) = a1)
def plinthref05_Laid.all (a0 a1 : Int) : Int → Nat → List S39 → Bool
 | _, _, [] => true
 | p, i, x :: l => plinthref05_Laid.row a0 a1 p i x && plinthref05_Laid.all a0 a1 x.f0 (i + 1) l
def plinthref05_Laid.f (k : Nat) (a0 a1 : Int) (l : List S39) : Option Bool := if l.length < 2 ^ 48 then some (plinthref05_Laid.all a0 a1 0 0 l) else none
theorem plinthref05_Laid.mono : ∀ a0 a1 l k, LeO (plinthref05_Laid.f k a0 a1 l) (plinthref05_Laid.f (k + 1) a0 a1 l) := fun _ _ _ _ => LeO.refl _
theorem plinthref05_Laid.cells3 {w : World} {g : Nat} {t : TypeId} {a b c : Value} (h : w.heap[g]? = some (.cells #[a, b, c] t (0, 0))) : w.cell? ⟨g, 0, none⟩ = some a ∧ w.cell? ⟨g, 1, none⟩ = some b ∧ w.cell? ⟨g, 2, none⟩ = some c := ⟨blk_cell h 0, blk_cell h 1, blk_cell h 2⟩
set_option maxHeartbeats 8000000 in
set_option maxRecDepth 100000 in
theorem plinthref05_Laid.calls (k : Nat) (a0 a1 : Int) (A1 : Option Addr) (c1 : Nat) (l : List S39) (r : Bool) (w : World) (hr : Kd.C k39 w A1 l.length l) (hc : l.length ≤ c1) (h : plinthref05_Laid.f k a0 a1 l = some r) :
  Calls Try.prog 61 #[.agg #[.int .i64 a0, .int .i64 a1], .slice A1 l.length c1] w fun e w' => e = .returned (.bool r) ∧ Below w.heap.size w w' := by
 unfold plinthref05_Laid.f at h
 split at h
 rotate_left
 ·cases h
 rename_i hlen
 have hall := Aside0.mk (Option.some.inj h)
 clear h
 go_enter Try.func61, Try.ntmps61
 go_wp2_with (first
  | ((with_reducible refine gate_dst (N := 2) rfl ?_); refine box_event ?hg (N := 2) ?hd (cs := #[.int .i64 a0, .int .i64 a1]) (t := 63) ?hr ?_; (case hd => rfl); (case hg => rfl); (case hr => first | (go_simp; done) | (go_simp; rfl)); intro gs hgs w3 hbox hb; replace hgs := Aside0.mk hgs))
 go_loopw [5] (fun q wr => ∃ (n : Nat) (p : Int), q = .int .i64 (n : Int) ∧ n ≤ l.length ∧ (∀ m, n = m + 1 → p = (rd_T39 l (m : Int)).f0) ∧ Below w.heap.size w wr ∧ wr.heap[gs]? = some (.cells #[.int .i64 a0, .int .i64 a1] 63 (0, 0)) ∧ plinthref05_Laid.all a0 a1 p n (l.drop n) = r) (fun q wr => l.length - (intOf q).toNat)
 case atStart => exact ⟨0, 0, rfl, by omega, fun m hm => by omega, hb, hbox, hall.out⟩
 case round =>
  clear hall hb hbox hgs
  obtain ⟨n, p, rfl, hn, hp, hB, hbox, hS⟩ := hrel
  by_cases e : n < l.length
  rotate_left
  ·obtain rfl : n = l.length := by omega
   rw [List.drop_length, plinthref05_Laid.all] at hS
   subst hS
   have e1 : decide ((l.length : Int) < (l.length : Int)) = false := decide_eq_false (by omega)
   go_wp2
   go_ret
   exact ⟨rfl, hB⟩
  obtain ⟨ad, A2, c2, eA, h0, h1, h2, hl2, hi2⟩ := at_T39 hr n (by omega) (by omega)
  cases eA
  replace h0 := (hB.cell (World.block_lt_of_cell? w _ h0)).trans h0
  replace h1 := (hB.cell (World.block_lt_of_cell? w _ h1)).trans h1
  replace h2 := (hB.cell (World.block_lt_of_cell? w _ h2)).trans h2
  have hd : l.drop n = rd_T39 l n :: l.drop (n + 1) := by
   rw [List.drop_eq_getElem_cons e, rd_T39, Int.toNat_natCast, List.getD_eq_getElem?_getD, List.getElem?_eq_getElem e, Option.getD_some]
  obtain ⟨x, hx⟩ : ∃ x, rd_T39 l (n : Int) = x := ⟨_, rfl⟩
  have hnext := Aside0.mk (show ∀ m, n + 1 = m + 1 → x.f0 = (rd_T39 l (m : Int)).f0 from fun m hm => by rw [show m = n by omega, hx])
  rw [hx] at h0 h1 h2 hl2 hi2 hd
  rw [Int.toNat_natCast] at h0 h1 h2
  rw [hd, plinthref05_Laid.all] at hS
  have e1 : decide ((n : Int) < (l.length : Int)) = true := decide_eq_true (by omega)
  have e2 : decide (0 ≤ (n : Int)) = true := decide_eq_true (by omega)
  go_wp2
  have hbx := blk_new wr (.cells #[.int .i64 x.f0, .int .i64 x.f1, .slice A2 x.f2.length c2] 39 (0, 0))
  have hB3 := below_step hB (below_alloc (Below.refl wr.heap.size wr) (.cells #[.int .i64 x.f0, .int .i64 x.f1, .slice A2 x.f2.length c2] 39 (0, 0)))
  replace hbox := blk_alloc hbox (.cells #[.int .i64 x.f0, .int .i64 x.f1, .slice A2 x.f2.length c2] 39 (0, 0))
  generalize wr.alloc (.cells #[.int .i64 x.f0, .int .i64 x.f1, .slice A2 x.f2.length c2] 39 (0, 0)) = W3 at hbx hB3 hbox ⊢
  generalize wr.heap.size = gp at hbx ⊢
  obtain ⟨b0, b1, b2⟩ := plinthref05_Laid.cells3 hbx
  obtain ⟨s0, s1⟩ := cells2 hbox
  have HB := Aside0.mk hB3
  have HX := Aside0.mk hbox
  have HR := Aside0.mk hr
  have HP := Aside0.mk hp
  have HL := Aside0.mk (And.intro hlen e)
  replace hi2 := Aside0.mk hi2
  clear hbx hB3 hbox hB h0 h1 h2 hr hd hx hp hlen
  replace hS := Aside0.mk hS
  by_cases c1 : x.f0 < 0
  ·have c1b := decide_eq_true c1
   have H : plinthref05_Laid.row a0 a1 p n x = false := by rw [plinthref05_Laid.row, if_pos c1]
   clear c1
   go_quiet (fail)
   go_wp2
   go_ret
   exact ⟨by rw [← hS.out, H]; rfl, pw_below_drewN HB.out nq⟩
  have c1b := decide_eq_false c1
  by_cases c2 : a0 ≤ x.f0
  ·have c2b := decide_eq_true c2
   have H : plinthref05_Laid.row a0 a1 p n x = false := by rw [plinthref05_Laid.row, if_neg c1, if_pos c2]
   clear c1 c2
   go_quiet (fail)
   go_wp2
   go_ret
   exact ⟨by rw [← hS.out, H]; rfl, pw_below_drewN HB.out nq⟩
  have c2b := decide_eq_false c2
  rcases Nat.eq_zero_or_pos n with hz | hz
  ·subst hz
   have c3 : ¬ (0 < 0 ∧ x.f0 ≤ p) := fun h => absurd h.1 (by decide)
   by_cases c4 : x.f1 < 1
   ·have c4b := decide_eq_true c4
    have H : plinthref05_Laid.row a0 a1 p 0 x = false := by rw [plinthref05_Laid.row, if_neg c1, if_neg c2, if_neg c3, if_pos c4]
    clear c1 c2 c3 c4
    go_quiet (fail)
    go_wp2
    go_ret
    exact ⟨by rw [← hS.out, H]; rfl, pw_below_drewN HB.out nq⟩
   have c4b := decide_eq_false c4
   by_cases c5 : 4611686018427387904 < x.f1
   ·have c5b := decide_eq_true c5
    have H : plinthref05_Laid.row a0 a1 p 0 x = false := by rw [plinthref05_Laid.row, if_neg c1, if_neg c2, if_neg c3, if_neg c4, if_pos c5]
    clear c1 c2 c3 c4 c5
    go_quiet (fail)
    go_wp2
    go_ret
    exact ⟨by rw [← hS.out, H]; rfl, pw_below_drewN HB.out nq⟩
   have c5b := decide_eq_false c5
   by_cases c6 : (x.f2.length : Int) = a1
   ·have c6b := bne_eq_false_iff_eq.mpr c6
    have H : plinthref05_Laid.row a0 a1 p 0 x = true := by rw [plinthref05_Laid.row, if_neg c1, if_neg c2, if_neg c3, if_neg c4, if_neg c5, decide_eq_true c6]
    clear c1 c2 c3 c4 c5 c6
    go_quiet (fail)
    go_wp2
    exact ⟨⟨0 + 1, x.f0, rfl, by have := HL.out.2; omega, hnext.out, pw_below_drewN HB.out nq, blk_drewN HX.out nq, by rw [← hS.out, H]; rfl⟩, by simp only [intOf]; have := HL.out.2; omega⟩
   ·have c6b := bne_iff_ne.2 c6
    have H : plinthref05_Laid.row a0 a1 p 0 x = false := by rw [plinthref05_Laid.row, if_neg c1, if_neg c2, if_neg c3, if_neg c4, if_neg c5, decide_eq_false c6]
    clear c1 c2 c3 c4 c5 c6
    go_quiet (fail)
    go_wp2
    go_ret
    exact ⟨by rw [← hS.out, H]; rfl, pw_below_drewN HB.out nq⟩
  ·obtain ⟨m, rfl⟩ : ∃ m, n = m + 1 := ⟨n - 1, by omega⟩
   obtain ⟨ad', A3, c3', eA, g0, _⟩ := at_T39 HR.out m (by omega) (by have := HL.out.2; omega)
   cases eA
   rw [Int.toNat_natCast, ← HP.out m rfl] at g0
   replace g0 := (HB.out.cell (World.block_lt_of_cell? w _ g0)).trans g0
   have e3 : True → IntKind.i64.wrap (m : Int) = (m : Int) := fun _ => by have := HL.out; rw [IntKind.wrap_i64]; omega
   have e7 : True → wrap64 ((m : Int) + 1 + 1) = (m : Int) + 1 + 1 := fun _ => by have := HL.out; unfold wrap64; omega
   have e4 : decide ((0 : Int) < ((m + 1 : Nat) : Int)) = true := decide_eq_true (by omega)
   have e5 : decide (0 ≤ (m : Int)) = true := decide_eq_true (by omega)
   have e6 : decide ((m : Int) < (l.length : Int)) = true := decide_eq_true (by have := HL.out.2; omega)
   by_cases c7 : x.f0 ≤ p
   ·have c7b := decide_eq_true c7
    have H : plinthref05_Laid.row a0 a1 p (m + 1) x = false := by rw [plinthref05_Laid.row, if_neg c1, if_neg c2, if_pos ⟨hz, c7⟩]
    clear c1 c2 c7 hz
    go_quiet (fail)
    go_wp2
    go_ret
    exact ⟨by rw [← hS.out, H]; rfl, pw_below_drewN HB.out nq⟩
   have c7b := decide_eq_false c7
   have c3 : ¬ (0 < m + 1 ∧ x.f0 ≤ p) := fun h => c7 h.2
   by_cases c4 : x.f1 < 1
   ·have c4b := decide_eq_true c4
    have H : plinthref05_Laid.row a0 a1 p (m + 1) x = false := by rw [plinthref05_Laid.row, if_neg c1, if_neg c2, if_neg c3, if_pos c4]
    clear c1 c2 c3 c4
    clear c7 hz
    go_quiet (fail)
    go_wp2
    go_ret
    exact ⟨by rw [← hS.out, H]; rfl, pw_below_drewN HB.out nq⟩
   have c4b := decide_eq_false c4
   by_cases c5 : 4611686018427387904 < x.f1
   ·have c5b := decide_eq_true c5
    have H : plinthref05_Laid.row a0 a1 p (m + 1) x = false := by rw [plinthref05_Laid.row, if_neg c1, if_neg c2, if_neg c3, if_neg c4, if_pos c5]
    clear c1 c2 c3 c4 c5
    clear c7 hz
    go_quiet (fail)
    go_wp2
    go_ret
    exact ⟨by rw [← hS.out, H]; rfl, pw_below_drewN HB.out nq⟩
   have c5b := decide_eq_false c5
   by_cases c6 : (x.f2.length : Int) = a1
   ·have c6b := bne_eq_false_iff_eq.mpr c6
    have H : plinthref05_Laid.row a0 a1 p (m + 1) x = true := by rw [plinthref05_Laid.row, if_neg c1, if_neg c2, if_neg c3, if_neg c4, if_neg c5, decide_eq_true c6]
    clear c1 c2 c3 c4 c5 c6
    clear c7 hz
    go_quiet (fail)
    go_wp2
    exact ⟨⟨m + 1 + 1, x.f0, by rw [e7 trivial]; rfl, by have := HL.out.2; omega, hnext.out, pw_below_drewN HB.out nq, blk_drewN HX.out nq, by rw [← hS.out, H]; rfl⟩, by rw [e7 trivial]; simp only [intOf]; have := HL.out.2; omega⟩
   ·have c6b := bne_iff_ne.2 c6
    have H : plinthref05_Laid.row a0 a1 p (m + 1) x = false := by rw [plinthref05_Laid.row, if_neg c1, if_neg c2, if_neg c3, if_neg c4, if_neg c5, decide_eq_false c6]
    clear c1 c2 c3 c4 c5 c6
    clear c7 hz
    go_quiet (fail)
    go_wp2
    go_ret
    exact ⟨by rw [← hS.out, H]; rfl, pw_below_drewN HB.out nq⟩

end Go.Proofs.Ytbmmddngadnofaa.F
