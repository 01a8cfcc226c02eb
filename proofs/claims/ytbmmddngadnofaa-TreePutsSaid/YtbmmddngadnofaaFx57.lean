-- Written by ext (this session's own program).
-- in short rows (short.py)
import Derived.Test.YtbmmddngadnofaaFx0
import Derived.Test.YtbmmddngadnofaaFx18
import Derived.Test.YtbmmddngadnofaaFx24
import Derived.Test.YtbmmddngadnofaaFx26
import Derived.Test.YtbmmddngadnofaaFx38
import Derived.Test.YtbmmddngadnofaaFx42
import Derived.Test.YtbmmddngadnofaaFx47
import Derived.Test.YtbmmddngadnofaaFx48
import Derived.Test.YtbmmddngadnofaaFx54
import Derived.Laws.OwnMore
import Derived.Maps.AppendAt
namespace Go.Proofs.Ytbmmddngadnofaa.F
open Go.RowKit Go.Proofs.YtbmmddngadnofaaW.PrintWords Go.Proofs.YtbmmddngadnofaaW.PrintLast Go.Proofs.YtbmmddngadnofaaW.PrintMore
attribute [local go_sem] max2_int min2_int max_two min_two max_three min_three max_four min_four   -- for this text's walks alone
set_option linter.unusedVariables false
set_option linter.unusedSimpArgs false

/-! ### plinthlaw25_TreePuts: function 10 -/
open Go.Shelf
open Go.Maps
theorem plinthlaw25_TreePuts.info39 : (Try.prog.info? 39).map (fun i => (i.zero, i.size, i.bytes)) = some (some (.agg #[.int .i64 0, .int .i64 0, .slice none 0 0]), 3, 40) := by kernel_rfl
theorem plinthlaw25_TreePuts.grown {A B : World} (h : A.grownBy B none) : Below A.heap.size A B := ⟨h.os, h.tape, h.output, h.size, fun k hk => h.block k hk (by simp)⟩
theorem plinthlaw25_TreePuts.ownR {α : Type} {d : Kd α} {e : Nat} {W : World} {base : Nat} {ok : Nat → Prop} {v : Value} {l : List α} (h : d.R e W base ok v l) (hl : 0 < l.length) : ∃ g c, v = .slice (some ⟨g, 0, none⟩) l.length c := by
 obtain ⟨_, inner, ho, _⟩ := h
 rcases ho.2 with ⟨_, h0⟩ | ⟨g, c, cur, hh, _⟩
 ·omega
 ·exact ⟨g, c, hh⟩
theorem plinthlaw25_TreePuts.ownN {α : Type} {d : Kd α} {e : Nat} {W : World} {base : Nat} {ok : Nat → Prop} {v : Value} {l : List α} (h : Kd.N d e W base ok v l) (hl : 0 < l.length) : ∃ g c, v = .slice (some ⟨g, 0, none⟩) l.length c := by
 obtain ⟨_, rows, hrl, hR, _⟩ := h
 obtain ⟨g, c, hv⟩ := plinthlaw25_TreePuts.ownR hR (by omega)
 exact ⟨g, c, by rw [hv, hrl]⟩
/-- A row of pages of the call's own, one of which becomes another one. -/
theorem plinthlaw25_TreePuts.store {W : World} {base g n c : Nat} {ok okp : Nat → Prop} {l : List S39} (h : Kd.N k39 39 W base ok (.slice (some ⟨g, 0, none⟩) n c) l) (i : Nat) (hi : i < n) (a b : Int) (d : List Int) {A : Option Addr} {cc : Nat} (hl : d.length ≤ cc) (hF : Kd.F (Kd.int .u8) W okp A d.length d) (hok : ∀ k, okp k → ok k ∧ k ≠ g) :
  (∃ a b v, W.cell? ⟨g, i * 3, none⟩ = some a ∧ W.cell? ⟨g, i * 3 + 1, none⟩ = some b ∧ W.cell? ⟨g, i * 3 + 2, none⟩ = some v) ∧ (∀ j, W.frozen? ⟨g, j, none⟩ = false) ∧ ∀ W', ((W.setCell ⟨g, i * 3, none⟩ (.int .i64 a)).setCell ⟨g, i * 3 + 1, none⟩ (.int .i64 b)).setCell ⟨g, i * 3 + 2, none⟩ (.slice A d.length cc) = W' →
   Kd.N k39 39 W' base ok (.slice (some ⟨g, 0, none⟩) n c) (l.set i ⟨a, b, d⟩) ∧ (∀ (g' : Nat) (t : TypeId) (cs : Array Value), W.heap[g']? = some (.cells cs t (0, 0)) → t ≠ 39 → W'.heap[g']? = some (.cells cs t (0, 0))) ∧ (∀ w0 : World, Below base w0 W → Below base w0 W') := by
 obtain ⟨hn, hc, hC⟩ := Kd.N_reads' h
 obtain ⟨ad, A2, c2, eA, h0, h1, h2, _⟩ := at_T39 hC (i : Int) (by omega) (by omega)
 cases eA
 rw [Int.toNat_natCast] at h0 h1 h2
 have e0 : ((⟨g, 0, none⟩ : Addr).add (i * 3)) = ⟨g, i * 3, none⟩ := by
  rw [Addr.add]
  simp
  try omega
 rw [e0] at h0 h1 h2
 obtain ⟨cells, hcl⟩ := Kd.N_typed h g (by simp [Value.ownBlock])
 have hbg := Kd.N_base h g (by simp [Value.ownBlock])
 refine ⟨⟨_, _, _, h0, h1, h2⟩, fun j => blk_frozen hcl j, fun W' e => ?_⟩
 have hs := (Kd.N_seg (c := [.int .i64 (rd_T39 l (i : Int)).f0, .int .i64 (rd_T39 l (i : Int)).f1, .slice A2 (rd_T39 l (i : Int)).f2.length c2]) (seg := [.int .i64 a, .int .i64 b, .slice A d.length cc]) (j := 0) (x' := ⟨a, b, d⟩) (okp := okp) h (i : Int) (by omega) (by omega) rfl (fun j u hj => by
  rcases j with _ | _ | _ | j
  ·simp at hj; subst hj; exact h0
  ·simp at hj; subst hj; exact h1
  ·simp at hj; subst hj; exact h2
  ·simp at hj) (Nat.le_refl 3) (k39_mkF W okp ⟨a, b, d⟩ hl hF) hok).1
 refine ⟨e ▸ hs, fun g' t cs hg ht => ?_, fun w0 hb => ?_⟩
 ·have hne := volume_Load.ne hg hcl ht
  exact e ▸ blk_far (blk_far (blk_far hg hne _) hne _) hne _
 ·exact e ▸ ((hb.setCell (p := ⟨g, i * 3, none⟩) hbg _).setCell (p := ⟨g, i * 3 + 1, none⟩) hbg _).setCell (p := ⟨g, i * 3 + 2, none⟩) hbg _
theorem plinthlaw25_TreePuts.tab8 : rtab .any (opsOf Try.f10 8) = rtab .any (opsOf Try.f10 8) := rfl
def plinthlaw25_TreePuts.B8 : List Nat := [0, 1, 0, 0, 8, 0, 56, 120, 248, 0, 0, 2040, 4095, 8191]
theorem plinthlaw25_TreePuts.bits8 : waitsOk (rtab .any (opsOf Try.f10 8)).2 plinthlaw25_TreePuts.B8 = true := by kernel_rfl
theorem plinthlaw25_TreePuts.tab13 : rtab .any (opsOf Try.f10 13) = rtab .any (opsOf Try.f10 13) := rfl
def plinthlaw25_TreePuts.B13 : List Nat := [0, 0, 2, 0, 14, 30, 62, 0, 128, 0, 896, 1920, 3968, 8191, 16383, 32767, 32767, 0, 196607, 524287]
theorem plinthlaw25_TreePuts.bits13 : waitsOk (rtab .any (opsOf Try.f10 13)).2 plinthlaw25_TreePuts.B13 = true := by kernel_rfl
def plinthlaw25_TreePuts.fin (k : Nat) (a b c : List (List Int) × Int) : Option Bool := if a.2 = 0 then (if b.2 = 0 then (if c.2 = 0 then plinthref25_Same.f k b.1 c.1 else some false) else some false) else some false
def plinthlaw25_TreePuts.g (k : Nat) (a0 a1 a2 : Int) (l3 : List S39) (l4 : List S121) (a5 : Int) (l6 : List Int) (x : S39) (i : Nat) : Option Bool :=
 (plinthref07_State.f k a0 a1 a2 (l3.set i x) l4 a5 l6).bind fun e => if e = 0 then ((tree_Of.f k a0 a1 a2 l3 l4 a5 l6).bind fun a => (tree_Of.f k a0 a1 a2 (l3.set i x) l4 a5 l6).bind fun b => (tree_Leaf.f k x.f0 x.f1 x.f2).bind fun d => (tree_Put.f k a.1 x.f0 d).bind fun c => plinthlaw25_TreePuts.fin k a b c) else some true
def plinthlaw25_TreePuts.f (k : Nat) (a0 a1 a2 : Int) (l3 : List S39) (l4 : List S121) (a5 : Int) (l6 : List Int) (pg : Int) (l : List Int) (ver : Int) : Option Bool :=
 (plinthlaw25_awake.f k).bind fun aw => if aw = true then ((plinthlaw25_small.f a0 a1 a2 l3 l4 a5 l6).bind fun sm => if sm = true then ((plinthref07_State.f k a0 a1 a2 l3 l4 a5 l6).bind fun e => if e = 0 then (if l3.length = 0 then some true else (if 100 < l.length then some true else (if 0 ≤ pg ∧ pg < 256 ∧ l3.length ≤ 70 then plinthlaw25_TreePuts.g k a0 a1 a2 l3 l4 a5 l6 ⟨(rd_T39 l3 (pg % l3.length)).f0, ver, l⟩ (pg % l3.length).toNat else none))) else some true) else some true) else some false
set_option maxHeartbeats 8000000 in
set_option maxRecDepth 100000 in
theorem plinthlaw25_TreePuts.calls (k : Nat) (a0 a1 a2 : Int) (A3 : Option Addr) (c3 : Nat) (l3 : List S39) (A4 : Option Addr) (c4 : Nat) (l4 : List S121) (a5 : Int) (A6 : Option Addr) (c6 : Nat) (l6 : List Int) (pg : Int) (A8 : Option Addr) (c8 : Nat) (l : List Int) (ver : Int) (r : Bool) (w : World) (hr3 : Kd.C k39 w A3 l3.length l3) (hc3 : l3.length ≤ c3) (hr4 : Kd.C k121 w A4 l4.length l4) (hc4 : l4.length ≤ c4) (hr6 : Kd.C (Kd.int .i64) w A6 l6.length l6) (hc6 : l6.length ≤ c6) (hr8 : Kd.C (Kd.int .u8) w A8 l.length l) (hc8 : l.length ≤ c8) (hr_ : Aside0 (r = true)) (h : plinthlaw25_TreePuts.f k a0 a1 a2 l3 l4 a5 l6 pg l ver = some r) :
  Calls Try.prog 10 #[.agg #[.int .i64 a0, .int .i64 a1, .int .i64 a2, .slice A3 l3.length c3, .slice A4 l4.length c4, .int .i64 a5, .slice A6 l6.length c6], .int .u8 pg, .slice A8 l.length c8, .int .i64 ver] w fun e w' => e = .returned (.bool r) ∧ Below w.heap.size w w' := by
 obtain rfl := hr_.out
 clear hr_
 unfold plinthlaw25_TreePuts.f at h
 obtain ⟨aw, haw, h⟩ := Option.bind_eq_some_iff.mp h
 cases aw
 ·exact absurd h (by simp)
 rw [if_pos rfl] at h
 have hawk := fun w1 => plinthlaw25_awake.calls k true w1 haw
 obtain ⟨sm, hsm, h⟩ := Option.bind_eq_some_iff.mp h
 have hsmall := fun w1 g3 g4 g6 => plinthlaw25_small.calls a0 a1 a2 A3 c3 l3 A4 c4 l4 a5 A6 c6 l6 sm w1 g3 hc3 g4 hc4 g6 hc6 hsm
 clear haw hsm
 cases sm
 ·clear h
  go_enter Try.func10, Try.ntmps10
  go_wp2_with (first
   | ((with_reducible refine gate_dst (N := 4) rfl ?_); refine box_event ?hg (N := 4) ?hd (cs := #[.int .i64 a0, .int .i64 a1, .int .i64 a2, .slice A3 l3.length c3, .slice A4 l4.length c4, .int .i64 a5, .slice A6 l6.length c6]) (t := 69) ?hr ?_; (case hd => rfl); (case hg => rfl); (case hr => first | (go_simp; done) | (go_simp; rfl)); intro gs hgs w3 hbox hb; replace hgs := Aside0.mk hgs; obtain ⟨b0, b1, b2, b3, b4, b5, b6⟩ := machine_Load.cells7 hbox; have hB := Aside0.mk hb; clear hb)
   | (refine (hawk _).mono ?_; rintro _ W1 ⟨rfl, hb1⟩; replace hB := Aside0.mk (below_step hB.out hb1); replace hbox := blk_below hbox hb1; clear b0 b1 b2 b3 b4 b5 b6; obtain ⟨b0, b1, b2, b3, b4, b5, b6⟩ := machine_Load.cells7 hbox; clear hb1)
   | (refine (hsmall _ (Kd.C_below hr3 hB.out) (Kd.C_below hr4 hB.out) (Kd.C_below hr6 hB.out)).mono ?_; rintro _ W2 ⟨rfl, hb2⟩; replace hB := Aside0.mk (below_step hB.out hb2); replace hbox := blk_below hbox hb2; clear b0 b1 b2 b3 b4 b5 b6; obtain ⟨b0, b1, b2, b3, b4, b5, b6⟩ := machine_Load.cells7 hbox; clear hb2))
  go_ret
  exact ⟨rfl, hB.out⟩
 rw [if_pos rfl] at h
 obtain ⟨e1, he1, h⟩ := Option.bind_eq_some_iff.mp h
 have hstate := fun w1 g3 g4 g6 => plinthref07_State.calls k a0 a1 a2 A3 c3 l3 A4 c4 l4 a5 A6 c6 l6 e1 w1 g3 hc3 g4 hc4 g6 hc6 he1
 clear he1
 by_cases q1 : e1 = 0
 rotate_left
 ·have q1b : (e1 != 0) = true := bne_iff_ne.2 q1
  clear h q1
  go_enter Try.func10, Try.ntmps10
  go_wp2_with (first
   | ((with_reducible refine gate_dst (N := 4) rfl ?_); refine box_event ?hg (N := 4) ?hd (cs := #[.int .i64 a0, .int .i64 a1, .int .i64 a2, .slice A3 l3.length c3, .slice A4 l4.length c4, .int .i64 a5, .slice A6 l6.length c6]) (t := 69) ?hr ?_; (case hd => rfl); (case hg => rfl); (case hr => first | (go_simp; done) | (go_simp; rfl)); intro gs hgs w3 hbox hb; replace hgs := Aside0.mk hgs; obtain ⟨b0, b1, b2, b3, b4, b5, b6⟩ := machine_Load.cells7 hbox; have hB := Aside0.mk hb; clear hb)
   | (refine (hawk _).mono ?_; rintro _ W1 ⟨rfl, hb1⟩; replace hB := Aside0.mk (below_step hB.out hb1); replace hbox := blk_below hbox hb1; clear b0 b1 b2 b3 b4 b5 b6; obtain ⟨b0, b1, b2, b3, b4, b5, b6⟩ := machine_Load.cells7 hbox; clear hb1)
   | (refine (hsmall _ (Kd.C_below hr3 hB.out) (Kd.C_below hr4 hB.out) (Kd.C_below hr6 hB.out)).mono ?_; rintro _ W2 ⟨rfl, hb2⟩; replace hB := Aside0.mk (below_step hB.out hb2); replace hbox := blk_below hbox hb2; clear b0 b1 b2 b3 b4 b5 b6; obtain ⟨b0, b1, b2, b3, b4, b5, b6⟩ := machine_Load.cells7 hbox; clear hb2)
   | (refine (hstate _ (Kd.C_below hr3 hB.out) (Kd.C_below hr4 hB.out) (Kd.C_below hr6 hB.out)).mono ?_; rintro _ W4 ⟨rfl, hb4⟩; replace hB := Aside0.mk (below_step hB.out hb4); replace hbox := blk_below hbox hb4; clear b0 b1 b2 b3 b4 b5 b6; obtain ⟨b0, b1, b2, b3, b4, b5, b6⟩ := machine_Load.cells7 hbox; clear hb4))
  go_ret
  exact ⟨rfl, hB.out⟩
 rw [if_pos q1] at h
 subst q1
 by_cases q2 : l3.length = 0
 ·have q2b : ((l3.length : Int) == 0) = true := by rw [q2]; rfl
  clear h q2
  go_enter Try.func10, Try.ntmps10
  go_wp2_with (first
   | ((with_reducible refine gate_dst (N := 4) rfl ?_); refine box_event ?hg (N := 4) ?hd (cs := #[.int .i64 a0, .int .i64 a1, .int .i64 a2, .slice A3 l3.length c3, .slice A4 l4.length c4, .int .i64 a5, .slice A6 l6.length c6]) (t := 69) ?hr ?_; (case hd => rfl); (case hg => rfl); (case hr => first | (go_simp; done) | (go_simp; rfl)); intro gs hgs w3 hbox hb; replace hgs := Aside0.mk hgs; obtain ⟨b0, b1, b2, b3, b4, b5, b6⟩ := machine_Load.cells7 hbox; have hB := Aside0.mk hb; clear hb)
   | (refine (hawk _).mono ?_; rintro _ W1 ⟨rfl, hb1⟩; replace hB := Aside0.mk (below_step hB.out hb1); replace hbox := blk_below hbox hb1; clear b0 b1 b2 b3 b4 b5 b6; obtain ⟨b0, b1, b2, b3, b4, b5, b6⟩ := machine_Load.cells7 hbox; clear hb1)
   | (refine (hsmall _ (Kd.C_below hr3 hB.out) (Kd.C_below hr4 hB.out) (Kd.C_below hr6 hB.out)).mono ?_; rintro _ W2 ⟨rfl, hb2⟩; replace hB := Aside0.mk (below_step hB.out hb2); replace hbox := blk_below hbox hb2; clear b0 b1 b2 b3 b4 b5 b6; obtain ⟨b0, b1, b2, b3, b4, b5, b6⟩ := machine_Load.cells7 hbox; clear hb2)
   | (refine (hstate _ (Kd.C_below hr3 hB.out) (Kd.C_below hr4 hB.out) (Kd.C_below hr6 hB.out)).mono ?_; rintro _ W4 ⟨rfl, hb4⟩; replace hB := Aside0.mk (below_step hB.out hb4); replace hbox := blk_below hbox hb4; clear b0 b1 b2 b3 b4 b5 b6; obtain ⟨b0, b1, b2, b3, b4, b5, b6⟩ := machine_Load.cells7 hbox; clear hb4))
  go_ret
  exact ⟨rfl, hB.out⟩
 have q2b : ((l3.length : Int) == 0) = false := by rw [beq_eq_false_iff_ne]; omega
 rw [if_neg q2] at h
 by_cases q3 : 100 < l.length
 ·have q3b : decide ((100 : Int) < (l.length : Int)) = true := decide_eq_true (by omega)
  clear h q2 q3
  go_enter Try.func10, Try.ntmps10
  go_wp2_with (first
   | ((with_reducible refine gate_dst (N := 4) rfl ?_); refine box_event ?hg (N := 4) ?hd (cs := #[.int .i64 a0, .int .i64 a1, .int .i64 a2, .slice A3 l3.length c3, .slice A4 l4.length c4, .int .i64 a5, .slice A6 l6.length c6]) (t := 69) ?hr ?_; (case hd => rfl); (case hg => rfl); (case hr => first | (go_simp; done) | (go_simp; rfl)); intro gs hgs w3 hbox hb; replace hgs := Aside0.mk hgs; obtain ⟨b0, b1, b2, b3, b4, b5, b6⟩ := machine_Load.cells7 hbox; have hB := Aside0.mk hb; clear hb)
   | (refine (hawk _).mono ?_; rintro _ W1 ⟨rfl, hb1⟩; replace hB := Aside0.mk (below_step hB.out hb1); replace hbox := blk_below hbox hb1; clear b0 b1 b2 b3 b4 b5 b6; obtain ⟨b0, b1, b2, b3, b4, b5, b6⟩ := machine_Load.cells7 hbox; clear hb1)
   | (refine (hsmall _ (Kd.C_below hr3 hB.out) (Kd.C_below hr4 hB.out) (Kd.C_below hr6 hB.out)).mono ?_; rintro _ W2 ⟨rfl, hb2⟩; replace hB := Aside0.mk (below_step hB.out hb2); replace hbox := blk_below hbox hb2; clear b0 b1 b2 b3 b4 b5 b6; obtain ⟨b0, b1, b2, b3, b4, b5, b6⟩ := machine_Load.cells7 hbox; clear hb2)
   | (refine (hstate _ (Kd.C_below hr3 hB.out) (Kd.C_below hr4 hB.out) (Kd.C_below hr6 hB.out)).mono ?_; rintro _ W4 ⟨rfl, hb4⟩; replace hB := Aside0.mk (below_step hB.out hb4); replace hbox := blk_below hbox hb4; clear b0 b1 b2 b3 b4 b5 b6; obtain ⟨b0, b1, b2, b3, b4, b5, b6⟩ := machine_Load.cells7 hbox; clear hb4))
  go_ret
  exact ⟨rfl, hB.out⟩
 have q3b : decide ((100 : Int) < (l.length : Int)) = false := decide_eq_false (by omega)
 rw [if_neg q3] at h
 split at h
 rotate_left
 ·cases h
 rename_i hpg
 obtain ⟨i, hi⟩ : ∃ i : Nat, pg % (l3.length : Int) = (i : Int) := ⟨(pg % (l3.length : Int)).toNat, by rw [Int.toNat_of_nonneg]; exact Int.emod_nonneg _ (by omega)⟩
 have hil : i < l3.length := by have := Int.emod_lt_of_pos pg (show (0 : Int) < (l3.length : Int) by omega); omega
 rw [hi, Int.toNat_natCast] at h
 have e9 : True → (wrap64 pg).tmod (l3.length : Int) = (i : Int) := fun _ => by
  rw [show wrap64 pg = pg by unfold wrap64; omega, Int.tmod_eq_emod_of_nonneg hpg.1]
  exact hi
 replace hi := Aside0.mk hi
 obtain ⟨x, hx⟩ : ∃ x : S39, x = ⟨(rd_T39 l3 (i : Int)).f0, ver, l⟩ := ⟨_, rfl⟩
 rw [← hx] at h
 replace hx := Aside0.mk hx
 replace h := Aside0.mk h
 obtain ⟨ad, A7, c7, eA, g0, _⟩ := at_T39 hr3 (i : Int) (by omega) (by omega)
 cases eA
 rw [Int.toNat_natCast] at g0
 have e2 : decide (0 ≤ (i : Int)) = true := decide_eq_true (by omega)
 have e3 : decide ((i : Int) < (l3.length : Int)) = true := decide_eq_true (by omega)
 have hF3 := Aside0.mk (Kd.C_F k39_heap hr3)
 have hF8 := Aside0.mk (Kd.C_F (Kd.heap_int .u8) hr8)
 have hLs := Aside0.mk (And.intro hpg hil)
 clear q2 q3 hpg
 replace hr3 := Aside0.mk hr3
 replace hr4 := Aside0.mk hr4
 replace hr6 := Aside0.mk hr6
 replace hr8 := Aside0.mk hr8
 go_enter Try.func10, Try.ntmps10
 go_wp2_with (first
  | ((with_reducible refine gate_dst (N := 4) rfl ?_); refine box_event ?hg (N := 4) ?hd (cs := #[.int .i64 a0, .int .i64 a1, .int .i64 a2, .slice (some ad) l3.length c3, .slice A4 l4.length c4, .int .i64 a5, .slice A6 l6.length c6]) (t := 69) ?hr ?_; (case hd => rfl); (case hg => rfl); (case hr => first | (go_simp; done) | (go_simp; rfl)); intro gs hgs w3 hbox hb; replace hgs := Aside0.mk hgs; obtain ⟨b0, b1, b2, b3, b4, b5, b6⟩ := machine_Load.cells7 hbox; have hB := Aside0.mk hb; clear hb)
  | (refine (hawk _).mono ?_; rintro _ W1 ⟨rfl, hb1⟩; replace hB := Aside0.mk (below_step hB.out hb1); replace hbox := blk_below hbox hb1; clear b0 b1 b2 b3 b4 b5 b6; obtain ⟨b0, b1, b2, b3, b4, b5, b6⟩ := machine_Load.cells7 hbox; clear hb1)
  | (refine (hsmall _ (Kd.C_below hr3.out hB.out) (Kd.C_below hr4.out hB.out) (Kd.C_below hr6.out hB.out)).mono ?_; rintro _ W2 ⟨rfl, hb2⟩; replace hB := Aside0.mk (below_step hB.out hb2); replace hbox := blk_below hbox hb2; clear b0 b1 b2 b3 b4 b5 b6; obtain ⟨b0, b1, b2, b3, b4, b5, b6⟩ := machine_Load.cells7 hbox; clear hb2)
  | (refine (hstate _ (Kd.C_below hr3.out hB.out) (Kd.C_below hr4.out hB.out) (Kd.C_below hr6.out hB.out)).mono ?_; rintro _ W4 ⟨rfl, hb4⟩; replace hB := Aside0.mk (below_step hB.out hb4); replace hbox := blk_below hbox hb4; clear b0 b1 b2 b3 b4 b5 b6; obtain ⟨b0, b1, b2, b3, b4, b5, b6⟩ := machine_Load.cells7 hbox; clear hb4)
  | ((with_reducible refine gate_dst (N := 45) rfl ?_); have hox := blk_new W4 (.cells #[.int .i64 a0, .int .i64 a1, .int .i64 a2, .slice (some ad) l3.length c3, .slice A4 l4.length c4, .int .i64 a5, .slice A6 l6.length c6] 69 (0, 0)); have hgo := Aside0.mk (And.intro (below_size hB.out) (blk_lt hbox)); replace hbox := blk_alloc hbox (.cells #[.int .i64 a0, .int .i64 a1, .int .i64 a2, .slice (some ad) l3.length c3, .slice A4 l4.length c4, .int .i64 a5, .slice A6 l6.length c6] 69 (0, 0)); replace hB := Aside0.mk (below_alloc hB.out (.cells #[.int .i64 a0, .int .i64 a1, .int .i64 a2, .slice (some ad) l3.length c3, .slice A4 l4.length c4, .int .i64 a5, .slice A6 l6.length c6] 69 (0, 0))); have hsz := Aside0.mk (World.size_alloc W4 (.cells #[.int .i64 a0, .int .i64 a1, .int .i64 a2, .slice (some ad) l3.length c3, .slice A4 l4.length c4, .int .i64 a5, .slice A6 l6.length c6] 69 (0, 0))); generalize W4.alloc (.cells #[.int .i64 a0, .int .i64 a1, .int .i64 a2, .slice (some ad) l3.length c3, .slice A4 l4.length c4, .int .i64 a5, .slice A6 l6.length c6] 69 (0, 0)) = w10 at hox hbox hB hsz ⊢; generalize W4.heap.size = go at hox hgo hsz ⊢; clear b0 b1 b2 b3 b4 b5 b6; refine Kd.N_lit k39 (w0 := w) w.heap.size 39 ?hg (N' := 45) ?hd (xs := ([] : List S39)) (inner := []) (ok := fun k_ => k_ ≠ gs ∧ k_ ≠ go) (okp := fun _ => False) ?hr (Reps.none _ _) (fun _ h => h.elim) ⟨by have := hgo.out.2; have := hsz.out; omega, by have := hsz.out; omega⟩ hB.out (below_size hB.out) (by simp) ?_; (case hd => rfl); (case hg => rfl); (case hr => first | (go_simp; done) | (go_simp; rfl)); intro v45 w45 hN45 hB45 hg45 hn45; have hn45' := Aside0.mk hn45; replace hbox := blk_below hbox (plinthlaw25_TreePuts.grown hg45); replace hox := blk_below hox (plinthlaw25_TreePuts.grown hg45); obtain ⟨b0, b1, b2, b3, b4, b5, b6⟩ := machine_Load.cells7 hbox; replace hN45 := Aside0.mk hN45; replace hB := Aside0.mk hB45; clear hB45 hg45 hn45)
  | ((with_reducible refine gate_builtin (b := .append) (xs := #[.tmp 45, .tmp 47]) rfl ?_); at_builtin; refine Kd.N_append_rows k39 (w0 := w) w.heap.size rfl (.tmp 45) (.tmp 47) 64 39 (.agg #[(.int .i64 0), (.int .i64 0), (.slice none 0 0)]) 40 rfl Try.underlying64 plinthlaw25_TreePuts.info39 rfl (by decide) (by omega) v45 [] l3 _ _ _ (fun k_ => k_ ≠ gs ∧ k_ ≠ go) (fun k_ => k_ < w.heap.size) rfl rfl hN45.out (Kd.F_below hF3.out hB.out) ?hokp (fun k_ hk => ⟨by have := blk_lt hbox; omega, by have := blk_lt hox; omega⟩) hB.out (below_size hB.out) (by have := hLs.out; simp only [List.length_nil]; omega) ?_; (case hokp => intro k_ hk; have h1 := hgo.out; have h2 := hgs.out; obtain ⟨q_, hq1, hq2⟩ := hn45'.out; have h3 := hsz.out; exact ⟨⟨by omega, by omega⟩, by rw [hq1]; intro he; injection he with he; omega⟩); intro v48 w48 hN48 hB48 hg48 hat48; rw [List.nil_append] at hN48; obtain ⟨g48, c48, rfl⟩ := plinthlaw25_TreePuts.ownN hN48 (by have := hLs.out.2; omega); replace hbox := blk_grown hbox hg48 (Kd.N_ne hN45.out hbox (by decide)); replace hox := blk_grown hox hg48 (Kd.N_ne hN45.out hox (by decide)); clear b0 b1 b2 b3 b4 b5 b6; obtain ⟨b0, b1, b2, b3, b4, b5, b6⟩ := machine_Load.cells7 hbox; obtain ⟨o0, o1, o2, o3, o4, o5, o6⟩ := machine_Load.cells7 hox; have of3 := blk_frozen hox 3; replace hN48 := Aside0.mk hN48; replace hB := Aside0.mk hB48; clear hB48 hg48 hat48 hN45 hn45'))
 have hgsgo : gs ≠ go := Nat.ne_of_lt hgo.out.2
 have hN9 := Kd.N_far (p := ⟨go, 3, none⟩) hN48.out (fun k_ hk => hk.2) (Value.slice (some ⟨g48, 0, none⟩) l3.length c48)
 have hbx9 : (w48.setCell ⟨go, 3, none⟩ (Value.slice (some ⟨g48, 0, none⟩) l3.length c48)).heap[gs]? = _ := blk_far hbox hgsgo _
 have hox9 := blk_set hox 3 (Value.slice (some ⟨g48, 0, none⟩) l3.length c48)
 have hB9 := hB.out.setCell (p := ⟨go, 3, none⟩) hgo.out.1 (Value.slice (some ⟨g48, 0, none⟩) l3.length c48)
 generalize w48.setCell ⟨go, 3, none⟩ (Value.slice (some ⟨g48, 0, none⟩) l3.length c48) = W9 at hN9 hbx9 hox9 hB9 ⊢
 clear hN48 hB hbox hox b0 b1 b2 b3 b4 b5 b6 o0 o1 o2 o3 o4 o5 o6 of3 hsz hawk hsmall hstate
 refine start_ (n := 14) (S := fun w' => w'.cell? ⟨go, 3, none⟩ = some (.slice (some ⟨g48, 0, none⟩) l3.length c48) ∧ w'.cell? ⟨gs, 3, none⟩ = some (.slice (some ad) l3.length c3) ∧ w'.cell? (ad.add (i * 3)) = some (.int .i64 (rd_T39 l3 (i : Int)).f0)) (ds := [13]) (Array.replicate 14 false) (by kernel_rfl) rfl rfl ⟨(blk_cell hox9 3).trans rfl, (blk_cell hbx9 3).trans rfl, (hB9.cell (World.block_lt_of_cell? w _ g0)).trans g0⟩ (fun hHeld => ?_)
 refine with_tabW plinthlaw25_TreePuts.tab8 plinthlaw25_TreePuts.bits8 (fun HT_ HW_ => ?_)
 replace hN9 := Kd.N_drew hN9
 replace hbx9 := blk_drew hbx9
 replace hox9 := blk_drew hox9
 replace hB9 := below_drew1 hB9
 generalize W9.drew = W10 at hN9 hbx9 hox9 hB9 hHeld ⊢
 refine pM 0 50 HT_.out ?_; refine tM 1 51 HT_.out HW_.out hHeld ?_; refine pM 2 52 HT_.out ?_; refine pM 3 53 HT_.out ?_; refine tM 4 54 HT_.out HW_.out hHeld ?_; refine pM 5 55 HT_.out ?_; refine pM 6 56 HT_.out ?_; refine pM 7 57 HT_.out ?_; refine tM 8 58 HT_.out HW_.out hHeld ?_; refine pM 9 59 HT_.out ?_; refine pM 10 60 HT_.out ?_; refine pM 11 61 HT_.out ?_; refine pM 12 62 HT_.out ?_
 obtain ⟨⟨sa, sb, sv, hs0, hs1, hs2⟩, hfz, hst⟩ := plinthlaw25_TreePuts.store hN9 i hil (rd_T39 l3 (i : Int)).f0 ver l hc8 (Kd.F_below hF8.out hB9) (fun k_ hk => ⟨⟨fun e => by have := hgs.out; omega, fun e => by have := hgo.out.1; omega⟩, fun e => by have := Kd.N_base hN9 g48 (by simp [Value.ownBlock]); omega⟩)
 have hf0 := hfz (i * 3)
 have hf1 := hfz (i * 3 + 1)
 have hf2 := hfz (i * 3 + 2)
 refine last_ (i := 13) (N := none) #[true, true, true, true, true, true, true, true, true, true, true, true, true, true] rfl rfl (one_of HT_.out (by kernel_rfl)) (by decide) (fun K hK => ?_)
 refine skip_ (w1 := ((W10.setCell ⟨g48, i * 3, none⟩ (.int .i64 (rd_T39 l3 (i : Int)).f0)).setCell ⟨g48, i * 3 + 1, none⟩ (.int .i64 ver)).setCell ⟨g48, i * 3 + 2, none⟩ (.slice A8 l.length c8)) (by rfl) rfl ?_ ?_
 ·go_simp
 obtain ⟨W11, hW11⟩ : ∃ W11, ((W10.setCell ⟨g48, i * 3, none⟩ (.int .i64 (rd_T39 l3 (i : Int)).f0)).setCell ⟨g48, i * 3 + 1, none⟩ (.int .i64 ver)).setCell ⟨g48, i * 3 + 2, none⟩ (.slice A8 l.length c8) = W11 := ⟨_, rfl⟩
 obtain ⟨hN11, hk11, hb11⟩ := hst W11 hW11
 have hbx11 := hk11 _ _ _ hbx9 (by decide)
 have hox11 := hk11 _ _ _ hox9 (by decide)
 have hB := Aside0.mk (hb11 _ hB9)
 have hW := Aside0.mk (Below.refl W11.heap.size W11)
 rw [hW11]
 refine hK.out _ _ ?_
 clear hK K hW11 hst hN9 hbx9 hox9 hB9 hb11 hk11 hs0 hs1 hs2 hf0 hf1 hf2 hfz hHeld
 refine done_ (done_of HT_.out (by kernel_rfl)) ?_
 rw [← hx.out] at hN11
 obtain ⟨o0, o1, o2, o3, o4, o5, o6⟩ := machine_Load.cells7 hox11
 obtain ⟨b0, b1, b2, b3, b4, b5, b6⟩ := machine_Load.cells7 hbx11
 replace hN11 := Aside0.mk hN11
 have hset : (l3.set i x).length = l3.length := List.length_set
 have hC11 := fun (w1 : World) (hb : Below W11.heap.size W11 w1) => (Kd.N_reads' (Kd.N_below hN11.out hb)).2.2
 rw [hset] at hC11
 replace h := h.out
 unfold plinthlaw25_TreePuts.g at h
 obtain ⟨e1, he1, h⟩ := Option.bind_eq_some_iff.mp h
 have hst2 := fun w1 g3 g4 g6 => plinthref07_State.calls k a0 a1 a2 (some ⟨g48, 0, none⟩) c48 (l3.set i x) A4 c4 l4 a5 A6 c6 l6 e1 w1 g3 (by rw [hset]; exact (Kd.N_reads' hN11.out).2.1) g4 hc4 g6 hc6 he1
 rw [hset] at hst2
 clear he1
 by_cases q5 : e1 = 0
 rotate_left
 ·have q5b : (e1 != 0) = true := bne_iff_ne.2 q5
  clear h q5
  go_wp2_with (first
   | (refine (hst2 _ (hC11 _ hW.out) (Kd.C_below hr4.out hB.out) (Kd.C_below hr6.out hB.out)).mono ?_; rintro _ W12 ⟨rfl, hb12⟩; replace hB := Aside0.mk (below_step hB.out hb12); replace hbx11 := blk_below hbx11 hb12; replace hox11 := blk_below hox11 hb12; replace hW := Aside0.mk (below_step hW.out hb12); clear b0 b1 b2 b3 b4 b5 b6 o0 o1 o2 o3 o4 o5 o6; obtain ⟨b0, b1, b2, b3, b4, b5, b6⟩ := machine_Load.cells7 hbx11; obtain ⟨o0, o1, o2, o3, o4, o5, o6⟩ := machine_Load.cells7 hox11; clear hb12))
  go_ret
  exact ⟨rfl, hB.out⟩
 rw [if_pos q5] at h
 subst q5
 obtain ⟨⟨ra, ra2⟩, hoa, h⟩ := Option.bind_eq_some_iff.mp h
 obtain ⟨⟨rb, rb2⟩, hob, h⟩ := Option.bind_eq_some_iff.mp h
 obtain ⟨d, hld, h⟩ := Option.bind_eq_some_iff.mp h
 obtain ⟨⟨rc, rc2⟩, hpc, h⟩ := Option.bind_eq_some_iff.mp h
 have hofa := fun w1 g3 g4 g6 => tree_Of.calls k a0 a1 a2 (some ad) c3 l3 A4 c4 l4 a5 A6 c6 l6 ra ra2 w1 g3 hc3 g4 hc4 g6 hc6 hoa
 have hofb := fun w1 g3 g4 g6 => tree_Of.calls k a0 a1 a2 (some ⟨g48, 0, none⟩) c48 (l3.set i x) A4 c4 l4 a5 A6 c6 l6 rb rb2 w1 g3 (by rw [hset]; exact (Kd.N_reads' hN11.out).2.1) g4 hc4 g6 hc6 hob
 rw [hset] at hofb
 clear hoa hob
 unfold plinthlaw25_TreePuts.fin at h
 dsimp only at h
 obtain ⟨z1, z2, z3, hsm⟩ : ra2 = 0 ∧ rb2 = 0 ∧ rc2 = 0 ∧ plinthref25_Same.f k rb rc = some true := by
  split at h
  ·split at h
   ·split at h
    ·exact ⟨by assumption, by assumption, by assumption, h⟩
    ·cases h
   ·cases h
  ·cases h
 subst z1
 subst z2
 subst z3
 clear h
 replace hsm := Aside0.mk hsm
 replace hpc := Aside0.mk hpc
 replace hld := Aside0.mk hld
 go_wp2_with (first
  | (refine (hst2 _ (hC11 _ hW.out) (Kd.C_below hr4.out hB.out) (Kd.C_below hr6.out hB.out)).mono ?_; rintro _ W12 ⟨rfl, hb12⟩; replace hB := Aside0.mk (below_step hB.out hb12); replace hbx11 := blk_below hbx11 hb12; replace hox11 := blk_below hox11 hb12; replace hW := Aside0.mk (below_step hW.out hb12); clear b0 b1 b2 b3 b4 b5 b6 o0 o1 o2 o3 o4 o5 o6; obtain ⟨b0, b1, b2, b3, b4, b5, b6⟩ := machine_Load.cells7 hbx11; obtain ⟨o0, o1, o2, o3, o4, o5, o6⟩ := machine_Load.cells7 hox11; clear hb12)
  | ((with_reducible refine (hofa _ ?s3 ?s4 ?s6).mono ?_); (case s3 => exact Kd.C_below hr3.out hB.out); (case s4 => exact Kd.C_below hr4.out hB.out); (case s6 => exact Kd.C_below hr6.out hB.out); rintro _ W13 ⟨v13, rfl, ⟨A13, n13, rfl, hl13, hF13⟩, hb13⟩; replace hB := Aside0.mk (below_step hB.out hb13); replace hbx11 := blk_below hbx11 hb13; replace hox11 := blk_below hox11 hb13; replace hW := Aside0.mk (below_step hW.out hb13); clear b0 b1 b2 b3 b4 b5 b6 o0 o1 o2 o3 o4 o5 o6; obtain ⟨b0, b1, b2, b3, b4, b5, b6⟩ := machine_Load.cells7 hbx11; obtain ⟨o0, o1, o2, o3, o4, o5, o6⟩ := machine_Load.cells7 hox11; clear hb13; replace hF13 := Aside0.mk hF13)
  | ((with_reducible refine (hofb _ ?s3 ?s4 ?s6).mono ?_); (case s3 => exact hC11 _ hW.out); (case s4 => exact Kd.C_below hr4.out hB.out); (case s6 => exact Kd.C_below hr6.out hB.out); rintro _ W14 ⟨v14, rfl, ⟨A14, n14, rfl, hl14, hF14⟩, hb14⟩; replace hB := Aside0.mk (below_step hB.out hb14); replace hbx11 := blk_below hbx11 hb14; replace hox11 := blk_below hox11 hb14; replace hW := Aside0.mk (below_step hW.out hb14); clear b0 b1 b2 b3 b4 b5 b6 o0 o1 o2 o3 o4 o5 o6; obtain ⟨b0, b1, b2, b3, b4, b5, b6⟩ := machine_Load.cells7 hbx11; obtain ⟨o0, o1, o2, o3, o4, o5, o6⟩ := machine_Load.cells7 hox11; replace hF14 := Aside0.mk hF14; replace hx11' := blk_below hx11' hb14; replace hF13 := Aside0.mk (Kd.F_below hF13.out hb14); clear hb14)
  | ((with_reducible refine gate_dst (N := 11) rfl ?_); refine box_event ?hg (N := 11) ?hd (cs := #[.slice none 0 0]) (t := 24) ?hr ?_; (case hd => rfl); (case hg => rfl); (case hr => first | (go_simp; done) | (go_simp; rfl)); intro g11 hg11 w15 hx11 hb15; have t0 := blk_cell hx11 0; have tf := blk_frozen hx11 0; obtain ⟨W15, hW15⟩ : ∃ W15, w15.setCell ⟨g11, 0, none⟩ (.slice A13 ra.length n13) = W15 := ⟨_, rfl⟩; have hx11' : W15.heap[g11]? = some (.cells #[.slice A13 ra.length n13] 24 (0, 0)) := hW15 ▸ blk_set hx11 0 _; have hb16 : Below W13.heap.size W13 W15 := hW15 ▸ hb15.setCell (p := ⟨g11, 0, none⟩) (Nat.le_of_eq hg11.symm) _; replace hg11 := Aside0.mk hg11; replace hB := Aside0.mk (below_step hB.out hb16); replace hbx11 := blk_below hbx11 hb16; replace hox11 := blk_below hox11 hb16; replace hW := Aside0.mk (below_step hW.out hb16); clear b0 b1 b2 b3 b4 b5 b6 o0 o1 o2 o3 o4 o5 o6; obtain ⟨b0, b1, b2, b3, b4, b5, b6⟩ := machine_Load.cells7 hbx11; obtain ⟨o0, o1, o2, o3, o4, o5, o6⟩ := machine_Load.cells7 hox11; replace hF13 := Aside0.mk (Kd.F_below hF13.out hb16); clear hb15 hb16)
  | ((with_reducible refine gate_dst (N := 13) rfl ?_); refine box_event ?hg (N := 13) ?hd (cs := #[.slice none 0 0]) (t := 24) ?hr ?_; (case hd => rfl); (case hg => rfl); (case hr => first | (go_simp; done) | (go_simp; rfl)); intro g13 hg13 w16 hx13 hb17; have u0 := blk_cell hx13 0; have uf := blk_frozen hx13 0; obtain ⟨W16, hW16⟩ : ∃ W16, w16.setCell ⟨g13, 0, none⟩ (.slice A14 rb.length n14) = W16 := ⟨_, rfl⟩; have hx13' : W16.heap[g13]? = some (.cells #[.slice A14 rb.length n14] 24 (0, 0)) := hW16 ▸ blk_set hx13 0 _; have hb18 : Below W14.heap.size W14 W16 := hW16 ▸ hb17.setCell (p := ⟨g13, 0, none⟩) (Nat.le_of_eq hg13.symm) _; replace hg13 := Aside0.mk hg13; replace hB := Aside0.mk (below_step hB.out hb18); replace hbx11 := blk_below hbx11 hb18; replace hox11 := blk_below hox11 hb18; replace hW := Aside0.mk (below_step hW.out hb18); clear b0 b1 b2 b3 b4 b5 b6 o0 o1 o2 o3 o4 o5 o6; obtain ⟨b0, b1, b2, b3, b4, b5, b6⟩ := machine_Load.cells7 hbx11; obtain ⟨o0, o1, o2, o3, o4, o5, o6⟩ := machine_Load.cells7 hox11; replace hx11' := blk_below hx11' hb18; replace hF13 := Aside0.mk (Kd.F_below hF13.out hb18); replace hF14 := Aside0.mk (Kd.F_below hF14.out hb18); clear hb17 hb18))
 have hsz11 := hC11 W16 hW.out
 have hxr : rd_T39 (l3.set i x) (i : Int) = x := by simp [rd_T39, hil]
 obtain ⟨ad', A7', c7', eA, k0, k1, k2, hl7, hi7⟩ := at_T39 hsz11 (i : Int) (by omega) (by omega)
 cases eA
 rw [hxr] at k0 k1 k2 hl7 hi7
 rw [Int.toNat_natCast, show ((⟨g48, 0, none⟩ : Addr).add (i * 3)) = ⟨g48, i * 3, none⟩ by rw [Addr.add]; simp; try omega] at k0 k1 k2
 have gx : W16.cell? (ad.add (i * 3)) = some (.int .i64 x.f0) := by
  rw [show x.f0 = (rd_T39 l3 (i : Int)).f0 by rw [hx.out]]
  exact (hB.out.cell (World.block_lt_of_cell? w _ g0)).trans g0
 have hsame := fun w1 Ac nc (hlc : rc.length ≤ nc) h1 h2 => plinthref25_Same.calls k A14 n14 rb Ac nc rc true w1 h1 hl14 h2 hlc hsm.out
 have hSb : ∀ w1 w2 : World, (w1.cell? ⟨g11, 0, none⟩ = some (.slice A13 ra.length n13) ∧ w1.cell? ⟨gs, 3, none⟩ = some (.slice (some ad) l3.length c3) ∧ w1.cell? (ad.add (i * 3)) = some (.int .i64 x.f0) ∧ w1.cell? ⟨go, 3, none⟩ = some (.slice (some ⟨g48, 0, none⟩) l3.length c48) ∧ w1.cell? ⟨g48, i * 3, none⟩ = some (.int .i64 x.f0) ∧ w1.cell? ⟨g48, i * 3 + 1, none⟩ = some (.int .i64 x.f1) ∧ w1.cell? ⟨g48, i * 3 + 2, none⟩ = some (.slice A7' x.f2.length c7')) → Below w1.heap.size w1 w2 → (w2.cell? ⟨g11, 0, none⟩ = some (.slice A13 ra.length n13) ∧ w2.cell? ⟨gs, 3, none⟩ = some (.slice (some ad) l3.length c3) ∧ w2.cell? (ad.add (i * 3)) = some (.int .i64 x.f0) ∧ w2.cell? ⟨go, 3, none⟩ = some (.slice (some ⟨g48, 0, none⟩) l3.length c48) ∧ w2.cell? ⟨g48, i * 3, none⟩ = some (.int .i64 x.f0) ∧ w2.cell? ⟨g48, i * 3 + 1, none⟩ = some (.int .i64 x.f1) ∧ w2.cell? ⟨g48, i * 3 + 2, none⟩ = some (.slice A7' x.f2.length c7')) := by
  rintro w1 w2 ⟨q1, q2, q3, q4, q5, q6, q7⟩ hb
  exact ⟨(hb.cell (World.block_lt_of_cell? _ _ q1)).trans q1, (hb.cell (World.block_lt_of_cell? _ _ q2)).trans q2, (hb.cell (World.block_lt_of_cell? _ _ q3)).trans q3, (hb.cell (World.block_lt_of_cell? _ _ q4)).trans q4, (hb.cell (World.block_lt_of_cell? _ _ q5)).trans q5, (hb.cell (World.block_lt_of_cell? _ _ q6)).trans q6, (hb.cell (World.block_lt_of_cell? _ _ q7)).trans q7⟩
 refine start_ (n := 20) (S := fun w1 => w1.cell? ⟨g11, 0, none⟩ = some (.slice A13 ra.length n13) ∧ w1.cell? ⟨gs, 3, none⟩ = some (.slice (some ad) l3.length c3) ∧ w1.cell? (ad.add (i * 3)) = some (.int .i64 x.f0) ∧ w1.cell? ⟨go, 3, none⟩ = some (.slice (some ⟨g48, 0, none⟩) l3.length c48) ∧ w1.cell? ⟨g48, i * 3, none⟩ = some (.int .i64 x.f0) ∧ w1.cell? ⟨g48, i * 3 + 1, none⟩ = some (.int .i64 x.f1) ∧ w1.cell? ⟨g48, i * 3 + 2, none⟩ = some (.slice A7' x.f2.length c7')) (ds := [18]) (Array.replicate 20 false) (by kernel_rfl) rfl rfl ⟨(blk_cell hx11' 0).trans rfl, b3, gx, o3, k0, k1, k2⟩ (fun hHeld => ?_)
 refine with_tabW plinthlaw25_TreePuts.tab13 plinthlaw25_TreePuts.bits13 (fun HT_ HW_ => ?_)
 have hBd := below_drew1 hB.out
 have hx13d := blk_drew hx13'
 replace hi7 := Aside0.mk (Kd.C_drew hi7)
 replace hF13 := Aside0.mk (Kd.F_drew hF13.out)
 replace hF14 := Aside0.mk (Kd.F_drew hF14.out)
 clear hN11 hC11 hst2 hofa hofb hsz11 b0 b1 b2 b3 b4 b5 b6 o0 o1 o2 o3 o4 o5 o6 hbx11 hox11 hx11' hx13' hW hB hW15 hW16 t0 tf u0 uf hx11 hx13 gx k0 k1 k2 hg11 hg13 hxr hset
 have hU := Below.refl W16.drew.heap.size W16.drew
 generalize hWd : W16.drew = W16d at hBd hx13d hi7 hF13 hF14 hHeld hU ⊢
 clear hWd
 obtain ⟨Wc, hWc⟩ : ∃ Wc, Wc = W16d := ⟨_, rfl⟩
 rw [← hWc] at hHeld ⊢
 replace hU : Below W16d.heap.size W16d Wc := hWc ▸ hU
 clear hWc
 refine tM 0 77 HT_.out HW_.out hHeld ?_; refine pM 1 78 HT_.out ?_; refine tM 2 79 HT_.out HW_.out hHeld ?_; refine pM 3 80 HT_.out ?_; refine pM 4 81 HT_.out ?_; refine pM 5 82 HT_.out ?_; refine tM 6 83 HT_.out HW_.out hHeld ?_; refine pM 7 84 HT_.out ?_; refine tM 8 85 HT_.out HW_.out hHeld ?_; refine pM 9 86 HT_.out ?_; refine pM 10 87 HT_.out ?_; refine tM 11 88 HT_.out HW_.out hHeld ?_
 refine two_ (i := 12) (j := 17) (Ni := some 89) (Nj := some 15) #[true, true, true, true, true, true, true, true, true, true, true, true, true, false, false, false, false, false, false, false] #[true, true, true, true, true, true, true, true, true, true, true, true, false, false, false, false, false, true, false, false] rfl rfl rfl rfl (two_of HT_.out (by kernel_rfl)) (by decide) (by decide) (fun K hK => ?_) (fun K hK => ?_)
 ·refine gM Try.func23 #[.agg #[.int .i64 x.f0, .int .i64 x.f1, .slice A7' x.f2.length c7']] ?_
  refine (tree_Leaf.calls k x.f0 x.f1 (fun k_ => k_ < Wc.heap.size) A7' c7' x.f2 d Wc (Kd.V_mk hl7 (Kd.C_F (Kd.heap_int .u8) (Kd.C_below hi7.out hU))) hld.out).mono ?_
  rintro e_ Wd ⟨rfl, hbd⟩
  replace hU := below_step hU hbd
  refine ⟨_, rfl, ?_⟩
  refine hK.out _ _ (hSb _ _ hHeld hbd) (fun hHeld => ?_)
  clear hK K
  refine nM 89 ?_
  refine two_ (i := 13) (j := 17) (Ni := some 90) (Nj := some 15) #[true, true, true, true, true, true, true, true, true, true, true, true, true, true, false, false, false, false, false, false] #[true, true, true, true, true, true, true, true, true, true, true, true, true, false, false, false, false, true, false, false] rfl rfl rfl rfl (two_of HT_.out (by kernel_rfl)) (by decide) (by decide) (fun K hK => ?_) (fun K hK => ?_)
  ·refine gM Try.func30 #[.agg #[.slice A13 ra.length n13], .int .i64 x.f0, .int .u32 d] ?_
   refine (tree_Put.calls k A13 n13 ra x.f0 d rc 0 Wd (Kd.F_now (Kd.F_below hF13.out hU)) hl13 hpc.out).mono ?_
   rintro e_ We ⟨ve, rfl, ⟨Ac, nc, rfl, hlc, hFc⟩, hbe⟩
   have hUc := hU
   replace hU := below_step hU hbe
   refine ⟨_, rfl, ?_⟩
   refine hK.out _ _ (hSb _ _ hHeld hbe) (fun hHeld => ?_)
   clear hK K
   refine nM 90 ?_; refine pM 14 76 HT_.out ?_; refine pM 15 91 HT_.out ?_; refine pM 16 92 HT_.out ?_
   refine oM 17 15 HT_.out (fun K hK => ?_)
   refine box_step ?hg (N := 15) ?hd (cs := #[.slice none 0 0]) (t := 24) ?hr ?_; (case hd => rfl); (case hg => rfl); (case hr => first | (go_simp; done) | (go_simp; rfl))
   intro g15 hg15 Wq hx15 hbq
   have hg16 : W16d.heap.size ≤ g15 := by rw [hg15]; exact below_size hU
   replace hg15 := Aside0.mk hg15
   replace hU := below_step hU hbq
   refine hK.out _ _ (hSb _ _ hHeld hbq) (fun hHeld => ?_)
   clear hK K
   refine nM 15 ?_
   have t0 := blk_cell hx15 0
   have tf := blk_frozen hx15 0
   refine last_ (i := 18) (N := none) #[true, true, true, true, true, true, true, true, true, true, true, true, true, true, true, true, true, true, true, false] rfl rfl (one_of HT_.out (by kernel_rfl)) (by decide) (fun K hK => ?_)
   refine skip_ (w1 := Wq.setCell ⟨g15, 0, none⟩ (.slice Ac rc.length nc)) (by rfl) rfl ?_ ?_
   ·go_simp
   refine hK.out _ _ ?_
   clear hK K t0 tf
   refine pM 19 16 HT_.out ?_
   refine done_ (done_of HT_.out (by kernel_rfl)) ?_
   have hx15' := blk_set hx15 0 (Value.slice Ac rc.length nc)
   have hU' := hU.setCell (p := ⟨g15, 0, none⟩) hg16 (Value.slice Ac rc.length nc)
   have hCc : Kd.C (Kd.slice 25 (Kd.int .u32)) (Wq.setCell ⟨g15, 0, none⟩ (Value.slice Ac rc.length nc)) Ac rc.length rc := hFc _ (fun k_ hk hlt => by have hk' : _ ≤ k_ := hk; exact (Below.heap_setCell Wq ⟨g15, 0, none⟩ _ k_ (fun e => by have e1 : k_ = g15 := e; have := hg15.out; omega)).trans (hbq.block k_ hlt))
   have hx13e := blk_below hx13d hU'
   have v13 := blk_cell hx13e 0
   have v15 := blk_cell hx15' 0
   have hCb := Kd.F_now (Kd.F_below hF14.out hU')
   clear hHeld
   go_wp2_with (first
    | ((with_reducible refine (hsame _ _ _ hlc hCb hCc).mono ?_); rintro _ W20 ⟨rfl, hb20⟩))
   go_ret
   exact ⟨rfl, below_step (hBd.trans (hU'.mono (below_size hBd))) hb20⟩
  ·refine box_step ?hg (N := 15) ?hd (cs := #[.slice none 0 0]) (t := 24) ?hr ?_; (case hd => rfl); (case hg => rfl); (case hr => first | (go_simp; done) | (go_simp; rfl))
   intro g15 hg15 Wq hx15 hbq
   have hg16 : W16d.heap.size ≤ g15 := by rw [hg15]; exact below_size hU
   replace hg15 := Aside0.mk hg15
   replace hU := below_step hU hbq
   refine hK.out _ _ (hSb _ _ hHeld hbq) (fun hHeld => ?_)
   clear hK K
   refine nM 15 ?_
   have hlq := Aside0.mk (blk_lt hx15)
   refine oM 13 90 HT_.out (fun K hK => ?_)
   refine gM Try.func30 #[.agg #[.slice A13 ra.length n13], .int .i64 x.f0, .int .u32 d] ?_
   refine (tree_Put.calls k A13 n13 ra x.f0 d rc 0 Wq (Kd.F_now (Kd.F_below hF13.out hU)) hl13 hpc.out).mono ?_
   rintro e_ We ⟨ve, rfl, ⟨Ac, nc, rfl, hlc, hFc⟩, hbe⟩
   have hUc := hU
   replace hU := below_step hU hbe
   refine ⟨_, rfl, ?_⟩
   refine hK.out _ _ (hSb _ _ hHeld hbe) (fun hHeld => ?_)
   clear hK K
   refine nM 90 ?_; refine pM 14 76 HT_.out ?_; refine pM 15 91 HT_.out ?_; refine pM 16 92 HT_.out ?_
   replace hx15 := blk_below hx15 hbe
   have t0 := blk_cell hx15 0
   have tf := blk_frozen hx15 0
   refine last_ (i := 18) (N := none) #[true, true, true, true, true, true, true, true, true, true, true, true, true, true, true, true, true, true, true, false] rfl rfl (one_of HT_.out (by kernel_rfl)) (by decide) (fun K hK => ?_)
   refine skip_ (w1 := We.setCell ⟨g15, 0, none⟩ (.slice Ac rc.length nc)) (by rfl) rfl ?_ ?_
   ·go_simp
   refine hK.out _ _ ?_
   clear hK K t0 tf
   refine pM 19 16 HT_.out ?_
   refine done_ (done_of HT_.out (by kernel_rfl)) ?_
   have hx15' := blk_set hx15 0 (Value.slice Ac rc.length nc)
   have hU' := hU.setCell (p := ⟨g15, 0, none⟩) hg16 (Value.slice Ac rc.length nc)
   have hCc : Kd.C (Kd.slice 25 (Kd.int .u32)) (We.setCell ⟨g15, 0, none⟩ (Value.slice Ac rc.length nc)) Ac rc.length rc := hFc _ (fun k_ hk hlt => by have hk' : _ ≤ k_ := hk; exact Below.heap_setCell We ⟨g15, 0, none⟩ _ k_ (fun e => by have e1 : k_ = g15 := e; have h3 := hlq.out; omega))
   have hx13e := blk_below hx13d hU'
   have v13 := blk_cell hx13e 0
   have v15 := blk_cell hx15' 0
   have hCb := Kd.F_now (Kd.F_below hF14.out hU')
   clear hHeld
   go_wp2_with (first
    | ((with_reducible refine (hsame _ _ _ hlc hCb hCc).mono ?_); rintro _ W20 ⟨rfl, hb20⟩))
   go_ret
   exact ⟨rfl, below_step (hBd.trans (hU'.mono (below_size hBd))) hb20⟩
 ·refine box_step ?hg (N := 15) ?hd (cs := #[.slice none 0 0]) (t := 24) ?hr ?_; (case hd => rfl); (case hg => rfl); (case hr => first | (go_simp; done) | (go_simp; rfl))
  intro g15 hg15 Wq hx15 hbq
  have hg16 : W16d.heap.size ≤ g15 := by rw [hg15]; exact below_size hU
  replace hg15 := Aside0.mk hg15
  replace hU := below_step hU hbq
  refine hK.out _ _ (hSb _ _ hHeld hbq) (fun hHeld => ?_)
  clear hK K
  refine nM 15 ?_
  have hlq := Aside0.mk (blk_lt hx15)
  refine oM 12 89 HT_.out (fun K hK => ?_)
  refine gM Try.func23 #[.agg #[.int .i64 x.f0, .int .i64 x.f1, .slice A7' x.f2.length c7']] ?_
  refine (tree_Leaf.calls k x.f0 x.f1 (fun k_ => k_ < Wq.heap.size) A7' c7' x.f2 d Wq (Kd.V_mk hl7 (Kd.C_F (Kd.heap_int .u8) (Kd.C_below hi7.out hU))) hld.out).mono ?_
  rintro e_ Wd ⟨rfl, hbd⟩
  replace hU := below_step hU hbd
  refine ⟨_, rfl, ?_⟩
  refine hK.out _ _ (hSb _ _ hHeld hbd) (fun hHeld => ?_)
  clear hK K
  refine nM 89 ?_
  replace hx15 := blk_below hx15 hbd
  replace hlq := Aside0.mk (blk_lt hx15)
  refine oM 13 90 HT_.out (fun K hK => ?_)
  refine gM Try.func30 #[.agg #[.slice A13 ra.length n13], .int .i64 x.f0, .int .u32 d] ?_
  refine (tree_Put.calls k A13 n13 ra x.f0 d rc 0 Wd (Kd.F_now (Kd.F_below hF13.out hU)) hl13 hpc.out).mono ?_
  rintro e_ We ⟨ve, rfl, ⟨Ac, nc, rfl, hlc, hFc⟩, hbe⟩
  have hUc := hU
  replace hU := below_step hU hbe
  refine ⟨_, rfl, ?_⟩
  refine hK.out _ _ (hSb _ _ hHeld hbe) (fun hHeld => ?_)
  clear hK K
  refine nM 90 ?_; refine pM 14 76 HT_.out ?_; refine pM 15 91 HT_.out ?_; refine pM 16 92 HT_.out ?_
  replace hx15 := blk_below hx15 hbe
  have t0 := blk_cell hx15 0
  have tf := blk_frozen hx15 0
  refine last_ (i := 18) (N := none) #[true, true, true, true, true, true, true, true, true, true, true, true, true, true, true, true, true, true, true, false] rfl rfl (one_of HT_.out (by kernel_rfl)) (by decide) (fun K hK => ?_)
  refine skip_ (w1 := We.setCell ⟨g15, 0, none⟩ (.slice Ac rc.length nc)) (by rfl) rfl ?_ ?_
  ·go_simp
  refine hK.out _ _ ?_
  clear hK K t0 tf
  refine pM 19 16 HT_.out ?_
  refine done_ (done_of HT_.out (by kernel_rfl)) ?_
  have hx15' := blk_set hx15 0 (Value.slice Ac rc.length nc)
  have hU' := hU.setCell (p := ⟨g15, 0, none⟩) hg16 (Value.slice Ac rc.length nc)
  have hCc : Kd.C (Kd.slice 25 (Kd.int .u32)) (We.setCell ⟨g15, 0, none⟩ (Value.slice Ac rc.length nc)) Ac rc.length rc := hFc _ (fun k_ hk hlt => by have hk' : _ ≤ k_ := hk; exact Below.heap_setCell We ⟨g15, 0, none⟩ _ k_ (fun e => by have e1 : k_ = g15 := e; have h3 := hlq.out; omega))
  have hx13e := blk_below hx13d hU'
  have v13 := blk_cell hx13e 0
  have v15 := blk_cell hx15' 0
  have hCb := Kd.F_now (Kd.F_below hF14.out hU')
  clear hHeld
  go_wp2_with (first
   | ((with_reducible refine (hsame _ _ _ hlc hCb hCc).mono ?_); rintro _ W20 ⟨rfl, hb20⟩))
  go_ret
  exact ⟨rfl, below_step (hBd.trans (hU'.mono (below_size hBd))) hb20⟩

end Go.Proofs.Ytbmmddngadnofaa.F
