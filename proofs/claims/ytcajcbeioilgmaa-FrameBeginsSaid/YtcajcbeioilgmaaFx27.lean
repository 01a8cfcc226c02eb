-- Written by ext (this session's own program).
import Derived.Test.YtcajcbeioilgmaaFx0
import Derived.Test.YtcajcbeioilgmaaFx7
import Derived.RangeFuncNested
import Derived.RangeFuncBound
import Derived.RangeFuncCalls
import Derived.RangeFuncLeaves
import Derived.RangeFuncBox
import Derived.Shelf.Abstract
import Derived.OwnWalkIn
import Derived.TacticsInMore
import Derived.LoopNIn
import Derived.LoopIn
import Derived.Maps.AppendAt
namespace Go.Proofs.Ytcajcbeioilgmaa.F
open Go.RowKit Go.Proofs.YtcajcbeioilgmaaW.PrintWords Go.Proofs.YtcajcbeioilgmaaW.PrintLast Go.Proofs.YtcajcbeioilgmaaW.PrintMore
attribute [local go_sem] max2_int min2_int max_two min_two max_three min_three max_four min_four   -- for this text's walks alone
set_option linter.unusedVariables false
set_option linter.unusedSimpArgs false

/-! ### frame_Scan: function 20 -/
open Go.Shelf
attribute [local go_sem] Oper.semAt_some
/-- Blocks of bytes lie as they lay. -/
def frame_Scan.Fix (n : Nat) (W W' : World) : Prop := ∀ (k : Nat) (cs : Array Value) (fr : Nat × Nat), n ≤ k → W.heap[k]? = some (Obj.cells cs 5 fr) → W'.heap[k]? = W.heap[k]?
theorem frame_Scan.Fix.refl (n : Nat) (W : World) : frame_Scan.Fix n W W := fun _ _ _ _ _ => rfl
theorem frame_Scan.Fix.trans {n : Nat} {A B C : World} (h : frame_Scan.Fix n A B) (k : frame_Scan.Fix n B C) : frame_Scan.Fix n A C :=
  fun i cs fr hn hi => (k i cs fr hn ((h i cs fr hn hi).trans hi)).trans (h i cs fr hn hi)
theorem frame_Scan.Fix.below {n : Nat} {A B : World} (h : Below A.heap.size A B) : frame_Scan.Fix n A B := fun i cs fr _ hi => h.block i (Array.getElem?_eq_some_iff.1 hi).1
/-- A slice of bytes that reads as it does as long as blocks of bytes lie. -/
def frame_Scan.Good (n : Nat) (W : World) (v : Value) (l : List Int) : Prop := ∃ A c, v = .slice A l.length c ∧ l.length ≤ c ∧ ∀ W', frame_Scan.Fix n W W' → (Kd.int .u8).C W' A l.length l
theorem frame_Scan.Good.fix {n : Nat} {W W1 : World} {v : Value} {l : List Int} (h : frame_Scan.Good n W v l) (hf : frame_Scan.Fix n W W1) : frame_Scan.Good n W1 v l := by
  obtain ⟨A, c, rfl, hc, hr⟩ := h
  exact ⟨A, c, rfl, hc, fun W' h' => hr W' (hf.trans h')⟩
def frame_Scan.El (n : Nat) (W : World) (x : S26) (cs : List Value) : Prop := ∃ v, cs = [.int .u8 x.f0, .int .u64 x.f1, v] ∧ frame_Scan.Good n W v x.f2
def frame_Scan.rec (fn : FuncId) (n0 : Nat) (tm : Array Value) (st : LoopState) (pe : Option Code) (assign body : Code) : Loop := { state := st, pending := pe, fn := fn, tmps := tm, params := #[10, 11], assign := assign, body := body, defers := n0 + 3 }
structure frame_Scan.Inv (A0 : Option Addr) (len c0 : Nat) (w : World) (rc : Loop) (acc : List S26) (at_ : Int) (W : World) : Prop where
  loop : W.heap[w.heap.size + 4]? = some (.loop rc)
  defs : W.heap[w.heap.size + 3]? = some (.deferred (some []))
  row : ∃ v inner, Boxed W w.heap.size 39 v ∧ W.ownsRow w.heap.size 26 3 v acc.length inner ∧ Reps (frame_Scan.El w.heap.size W) 3 acc inner
  at_ : Boxed W (w.heap.size + 1) 3 (.int .i64 at_)
  box : Boxed W (w.heap.size + 2) 22 (.slice A0 len c0)
  below : Below w.heap.size w W

/-- The loop's parts, as the program has them. -/
def frame_Scan.parts (c : Option Code) : Code × Code := match c with
  | some (.seq _ (.seq _ (.seq _ (.seq (.seq _ (.block _ (.rangeFunc _ _ a b))) _)))) => (a, b)
  | _ => (.skip, .skip)
noncomputable def frame_Scan.assign : Code := (frame_Scan.parts Try.f20.body).1
noncomputable def frame_Scan.body : Code := (frame_Scan.parts Try.f20.body).2
def frame_Scan.tm (w : World) (A0 : Option Addr) (len c0 : Nat) : Array Value := #[.slice A0 len c0, undef, .slice none 0 0, .int .i64 0, .pointer (some ⟨w.heap.size, 0, none⟩), .pointer (some ⟨w.heap.size + 1, 0, none⟩), undef, undef, .slice A0 len c0, .func (.func 46) #[] #[.pointer (some ⟨w.heap.size + 2, 0, none⟩)], undef, undef, undef, undef, undef, undef, undef, undef, undef]

theorem frame_Scan.Fix.far {n : Nat} {W W' : World} {g : Nat} {o : Obj} (h : W.heap[g]? = some o) (ho : ∀ cs fr, o ≠ Obj.cells cs 5 fr) (hw : ∀ k, k ≠ g → k < W.heap.size → W'.heap[k]? = W.heap[k]?) : frame_Scan.Fix n W W' := by
  intro k cs fr _ hk
  refine hw k (fun e => ?_) (Array.getElem?_eq_some_iff.1 hk).1
  subst e
  rw [h] at hk
  exact ho cs fr (Option.some.inj hk)
theorem frame_Scan.Fix.put {n : Nat} {W : World} {l : Nat} {r : Loop} {o : Obj} (h : W.heap[l]? = some (.loop r)) : frame_Scan.Fix n W (W.putObj l o) :=
  frame_Scan.Fix.far h (fun _ _ e => by cases e) (fun k hk _ => World.putObj_heap_other hk)
theorem frame_Scan.Fix.box {n : Nat} {W : World} {g t : Nat} {v u : Value} (h : Boxed W g t v) (ht : t ≠ 5) : frame_Scan.Fix n W (W.setCell ⟨g, 0, none⟩ u) :=
  frame_Scan.Fix.far (show W.heap[g]? = some (.cells #[v] t (0, 0)) from h) (fun _ _ e => ht (Obj.cells.inj e).2.1) (fun k hk _ => heap_setCell_other W ⟨g, 0, none⟩ k u hk)
theorem frame_Scan.Fix.row {n : Nat} {W W' : World} {b sz k : Nat} {v : Value} {xs : List Value} (hr : W.ownsRow b 26 sz v k xs) (hg : W.grownBy W' v.ownBlock) : frame_Scan.Fix n W W' := by
  intro i cs fr _ hi
  refine hg.block i (Array.getElem?_eq_some_iff.1 hi).1 (fun e => ?_)
  rcases hr.2 with ⟨rfl, _⟩ | ⟨g, cap, cur, rfl, _, hgb, _⟩
  · simp [Value.ownBlock] at e
  · obtain rfl : i = g := by simpa [Value.ownBlock] using e
    rw [hgb] at hi
    exact absurd (Obj.cells.inj (Option.some.inj hi)).2.1 (by decide)
theorem frame_Scan.three (w : World) (a b c : Value) (t : TypeId) : ∀ j u, [a, b, c][j]? = some u → (w.alloc (.cells #[a, b, c] t)).cell? ((⟨w.heap.size, 0, none⟩ : Addr).add j) = some u := by
  intro j u hj
  match j, hj with
  | 0, hj => simp at hj; subst hj; simp [Addr.add]
  | 1, hj => simp at hj; subst hj; simp [Addr.add]
  | 2, hj => simp at hj; subst hj; simp [Addr.add]
set_option maxHeartbeats 4000000 in
set_option maxRecDepth 100000 in
theorem frame_Scan.round (fn : FuncId) (A0 : Option Addr) (len c0 m : Nat) (w W : World) (acc : List S26) (at_ nx kd sr : Int) (vb : Value) (body : List Int) (hlen : acc.length < 3518437208883)
    (hI : frame_Scan.Inv A0 len c0 w (frame_Scan.rec fn w.heap.size (frame_Scan.tm w A0 len c0) .ready none frame_Scan.assign frame_Scan.body) acc at_ W) (hG : frame_Scan.Good w.heap.size W vb body) (R : Ending → World → Prop)
    (hR : ∀ W', frame_Scan.Inv A0 len c0 w (frame_Scan.rec fn w.heap.size (frame_Scan.tm w A0 len c0) .ready none frame_Scan.assign frame_Scan.body) (acc ++ [⟨kd, sr, body⟩]) nx W' → frame_Scan.Fix w.heap.size W W' → R (.returned (.bool true)) W') :
    YieldAt Fence.wide m Try.prog (w.heap.size + 4) #[.agg #[.int .u8 kd, .int .u64 sr, vb], .int .i64 nx] W R := by
  obtain ⟨hloop, hdefs, ⟨v, inner, hv, hrow, hreps⟩, hat, hbx, hb⟩ := hI
  obtain ⟨Ab, cb, rfl, hcb, hrb⟩ := hG
  refine ⟨fn, _, frame_Scan.assign, frame_Scan.body, run_yield hloop rfl, roundIn_of_wpIn trivial ?_⟩
  unfold frame_Scan.assign frame_Scan.rec frame_Scan.tm frame_Scan.parts Try.f20
  dsimp only
  gi_wp2
  have hf1 : frame_Scan.Fix w.heap.size W (W.alloc (Obj.cells #[Value.int IntKind.u8 kd, Value.int IntKind.u64 sr, Value.slice Ab body.length cb] 26)) := frame_Scan.Fix.below ((Below.refl _ W).alloc (Nat.le_refl _) _)
  have hX1 := World.alloc_heap_new W (Obj.cells #[Value.int IntKind.u8 kd, Value.int IntKind.u64 sr, Value.slice Ab body.length cb] 26)
  have hl1 := (Below.heap_alloc W (Obj.cells #[Value.int IntKind.u8 kd, Value.int IntKind.u64 sr, Value.slice Ab body.length cb] 26) _ (Array.getElem?_eq_some_iff.1 hloop).1).trans hloop
  have hd1 := (Below.heap_alloc W (Obj.cells #[Value.int IntKind.u8 kd, Value.int IntKind.u64 sr, Value.slice Ab body.length cb] 26) _ (Array.getElem?_eq_some_iff.1 hdefs).1).trans hdefs
  have hv1 := hv.alloc (Obj.cells #[Value.int IntKind.u8 kd, Value.int IntKind.u64 sr, Value.slice Ab body.length cb] 26)
  have hat1 := hat.alloc (Obj.cells #[Value.int IntKind.u8 kd, Value.int IntKind.u64 sr, Value.slice Ab body.length cb] 26)
  have hbx1 := hbx.alloc (Obj.cells #[Value.int IntKind.u8 kd, Value.int IntKind.u64 sr, Value.slice Ab body.length cb] 26)
  have hrow1 := hrow.alloc (Obj.cells #[Value.int IntKind.u8 kd, Value.int IntKind.u64 sr, Value.slice Ab body.length cb] 26)
  have hb1 := hb.alloc hb.size (Obj.cells #[Value.int IntKind.u8 kd, Value.int IntKind.u64 sr, Value.slice Ab body.length cb] 26)
  obtain ⟨xb, hxb⟩ : ∃ xb, W.heap.size = xb := ⟨_, rfl⟩
  rw [hxb] at hX1 ⊢
  obtain ⟨W1, hW1⟩ : ∃ W1, W.alloc (Obj.cells #[Value.int IntKind.u8 kd, Value.int IntKind.u64 sr, Value.slice Ab body.length cb] 26) = W1 := ⟨_, rfl⟩
  rw [hW1] at hf1 hX1 hl1 hd1 hv1 hat1 hbx1 hrow1 hb1 ⊢
  clear hW1
  refine ⟨_, run_beginRound hl1 rfl, ?_⟩
  obtain ⟨W2, hW2⟩ : ∃ W2, W1.putObj (w.heap.size + 4) (.loop (frame_Scan.rec fn w.heap.size (frame_Scan.tm w A0 len c0) .busy none frame_Scan.assign frame_Scan.body)) = W2 := ⟨_, rfl⟩
  have hf2 : frame_Scan.Fix w.heap.size W W2 := by rw [← hW2]; exact hf1.trans (frame_Scan.Fix.put hl1)
  have hl2 : W2.heap[w.heap.size + 4]? = some (.loop (frame_Scan.rec fn w.heap.size (frame_Scan.tm w A0 len c0) .busy none frame_Scan.assign frame_Scan.body)) := by rw [← hW2]; exact World.putObj_heap_same (Array.getElem?_eq_some_iff.1 hl1).1
  have hne : xb ≠ w.heap.size + 4 := fun e => by rw [e, hl1] at hX1; cases hX1
  have hX2 : W2.heap[xb]? = some (Obj.cells #[Value.int IntKind.u8 kd, Value.int IntKind.u64 sr, Value.slice Ab body.length cb] 26) := by rw [← hW2]; exact (World.putObj_heap_other hne).trans hX1
  have hd2 : W2.heap[w.heap.size + 3]? = some (Obj.deferred (some [])) := by rw [← hW2]; exact (World.putObj_heap_other (by omega)).trans hd1
  have hv2 : Boxed W2 w.heap.size 39 v := by rw [← hW2]; exact (World.putObj_heap_other (by omega)).trans hv1
  have hat2 : Boxed W2 (w.heap.size + 1) 3 (.int .i64 at_) := by rw [← hW2]; exact (World.putObj_heap_other (by omega)).trans hat1
  have hbx2 : Boxed W2 (w.heap.size + 2) 22 (.slice A0 len c0) := by rw [← hW2]; exact (World.putObj_heap_other (by omega)).trans hbx1
  have hrow2 : W2.ownsRow w.heap.size 26 3 v acc.length inner := by rw [← hW2]; exact ownsRow_putObj hrow1 _ hl1 rfl
  have hb2 : Below w.heap.size w W2 := by rw [← hW2]; exact hb1.trans (belowK_b (w := w) (Nat.le_refl _) W1 (w.heap.size + 4) _ _ (by omega) hl1 rfl rfl)
  change frame_Scan.body.wpIn _ _ _ _ _ (W1.putObj (w.heap.size + 4) (.loop (frame_Scan.rec fn w.heap.size (frame_Scan.tm w A0 len c0) .busy none frame_Scan.assign frame_Scan.body)))
  rw [hW2]
  clear hW2 hf1 hX1 hl1 hd1 hv1 hat1 hbx1 hrow1 hb1 hloop hdefs hv hat hbx hrow hb
  obtain ⟨i0, hi, hz0, hz1, hz2⟩ := info_parts info26
  obtain ⟨hx0, hx1, hx2, hy0, hy1, hy2⟩ := cells3 hX2
  have hcv := hv2.cell
  have hsz := hb2.size
  unfold frame_Scan.body frame_Scan.parts Try.f20
  dsimp only
  gi_wp2_with (gi_at_builtin; refine wpListIn_append_own _ rfl _ _ 39 rfl w.heap.size 26 i0 _ 3 40 Try.underlying39 hi hz0 hz1 hz2 rfl (by decide) _ _ _ rfl (hrow2.alloc _) ⟨W2.heap.size, 0, none⟩ 1 1 [Value.int IntKind.u8 kd, Value.int IntKind.u64 sr, Value.slice Ab body.length cb] rfl rfl (frame_Scan.three _ _ _ _ _) (by simp [Value.oneCell']) (by simp only [maxLen]; omega) (by omega) (by simp; omega) ?_; intro v' w1 hown' hgrow _; obtain ⟨g', cap', rfl⟩ := ownsRow_succ hown'; obtain ⟨hv3, hv4, hr4, hk4, hb4⟩ := hv2.appended (by decide) hrow2 hb2.size (Nat.le_refl _) hown' hgrow; have hat3 := (hat2.alloc (Obj.cells #[Value.int IntKind.u8 kd, Value.int IntKind.u64 sr, Value.slice Ab body.length cb] 26)).kept hgrow ((hat2.alloc (Obj.cells #[Value.int IntKind.u8 kd, Value.int IntKind.u64 sr, Value.slice Ab body.length cb] 26)).not_row (by decide) (hrow2.alloc _)); have hbx3 := (hbx2.alloc (Obj.cells #[Value.int IntKind.u8 kd, Value.int IntKind.u64 sr, Value.slice Ab body.length cb] 26)).kept hgrow ((hbx2.alloc (Obj.cells #[Value.int IntKind.u8 kd, Value.int IntKind.u64 sr, Value.slice Ab body.length cb] 26)).not_row (by decide) (hrow2.alloc _)); have hc1 := hv3.cell; have hfr1 := hv3.frozen; have hc2 := hat3.cell; have hfr2 := hat3.frozen)
  have hat4 := (hat3.other (B' := w.heap.size) (by omega) (Value.slice (some { block := g', off := 0 }) (acc.length + 1) cap')).set (.int .i64 nx)
  have hbx4 := (hbx3.other (B' := w.heap.size) (by omega) (Value.slice (some { block := g', off := 0 }) (acc.length + 1) cap')).other (B' := w.heap.size + 1) (by omega) (.int .i64 nx)
  have hv5 := hv4.other (B' := w.heap.size + 1) (by omega) (.int .i64 nx)
  have hr5 := hr4.kept (grownBy_setCell' _ (w.heap.size + 1) (.int .i64 nx)) (.inr ((hat3.other (B' := w.heap.size) (by omega) (Value.slice (some { block := g', off := 0 }) (acc.length + 1) cap')).not_row (by decide) hr4).symm)
  have hl5 := hk4.same _ _ hl2 rfl
  have hl6 := (KeepsOthers.setCell _ ⟨w.heap.size + 1, 0, none⟩ (.int .i64 nx)).same _ _ hl5 rfl
  have hd6 := (KeepsOthers.setCell _ ⟨w.heap.size + 1, 0, none⟩ (.int .i64 nx)).same _ _ (hk4.same _ _ hd2 rfl) rfl
  have hb6 := hb2.trans (hb4.setCell (p := ⟨w.heap.size + 1, 0, none⟩) (by simp) (.int .i64 nx))
  have hf3 : frame_Scan.Fix w.heap.size W2 w1 := (frame_Scan.Fix.below ((Below.refl _ W2).alloc (Nat.le_refl _) _)).trans (frame_Scan.Fix.row (hrow2.alloc _) hgrow)
  have hf6 := (hf3.trans (frame_Scan.Fix.box (u := Value.slice (some { block := g', off := 0 }) (acc.length + 1) cap') hv3 (by decide))).trans (frame_Scan.Fix.box (u := .int .i64 nx) (hat3.other (B' := w.heap.size) (by omega) (Value.slice (some { block := g', off := 0 }) (acc.length + 1) cap')) (by decide))
  obtain ⟨W4, hW4⟩ : ∃ W4, ((w1.setCell { block := w.heap.size, off := 0 } (Value.slice (some { block := g', off := 0 }) (acc.length + 1) cap')).setCell { block := w.heap.size + 1, off := 0 } (Value.int IntKind.i64 nx)) = W4 := ⟨_, rfl⟩
  rw [hW4] at hat4 hbx4 hv5 hr5 hl6 hd6 hb6 hf6 ⊢
  have hF : frame_Scan.Fix w.heap.size W (W4.putObj (w.heap.size + 4) (.loop (frame_Scan.rec fn w.heap.size (frame_Scan.tm w A0 len c0) .ready none frame_Scan.assign frame_Scan.body))) := hf2.trans (hf6.trans (frame_Scan.Fix.put hl6))
  refine ⟨_, _, run_endRound none hl6, hR _ ⟨?_, ?_, ⟨_, inner ++ [Value.int IntKind.u8 kd, Value.int IntKind.u64 sr, Value.slice Ab body.length cb], (World.putObj_heap_other (by omega)).trans hv5, ?_, ?_⟩, (World.putObj_heap_other (by omega)).trans hat4, (World.putObj_heap_other (by omega)).trans hbx4, ?_⟩ hF⟩
  · exact World.putObj_heap_same (Array.getElem?_eq_some_iff.1 hl6).1
  · exact (World.putObj_heap_other (by omega)).trans hd6
  · rw [List.length_append]
    exact ownsRow_putObj hr5 _ hl6 rfl
  · exact (hreps.imp_ (fun x cs hx => by obtain ⟨u, rfl, hu⟩ := hx; exact ⟨u, rfl, hu.fix hF⟩)).snoc ⟨_, rfl, Ab, cb, rfl, hcb, fun W' hW' => hrb W' (hF.trans hW')⟩ rfl
  · exact hb6.trans (belowK_b (w := w) (Nat.le_refl _) W4 (w.heap.size + 4) _ _ (by omega) hl6 rfl rfl)
def frame_Scan.l0 : Nat → List Int → List S26 → Int → Option (List S26 × Int)
  | 0, _, _, _ => none
  | k + 1, b, acc, at_ => (frame_Read.f k b at_).bind fun bt => (if bt.2.2.2.2 = 0 then (if acc.length < 3518437208883 then (if at_ < bt.2.2.2.1 ∧ bt.2.2.2.1 ≤ (b.length : Int) then (frame_Scan.l0 k b (acc ++ [(⟨bt.1, bt.2.1, bt.2.2.1⟩ : S26)]) bt.2.2.2.1) else (none)) else (none)) else (some (acc, at_)))
def frame_Scan.f (k : Nat) (l0 : List Int) : Option (List S26 × Int) := frame_Scan.l0 k l0 [] 0
theorem frame_Scan.mono_l : ∀ k, (∀ y0 y1 y2, LeO (frame_Scan.l0 k y0 y1 y2) (frame_Scan.l0 (k + 1) y0 y1 y2))
  | 0 => fun _ _ _ r h => by simp [frame_Scan.l0] at h
  | k + 1 => by
    have ih0 := frame_Scan.mono_l k
    intro y0 y1 y2
    unfold frame_Scan.l0
    repeat' first
      | (with_reducible exact ih0 _ _ _)
      | (with_reducible exact frame_Read.mono _ _ _)
      | (with_reducible exact LeO.refl _)
      | (with_reducible exact LeO.none _)
      | (with_reducible refine LeO.ite ?_ ?_)
      | (with_reducible refine LeO.bind ?_ (fun _ => ?_))
theorem frame_Scan.mono : ∀ a0 k, LeO (frame_Scan.f k a0) (frame_Scan.f (k + 1) a0) := fun a0 k => frame_Scan.mono_l k a0 [] 0
theorem frame_Scan.Good.of_Q {n : Nat} {W : World} {b : Nat} {ok : Nat → Prop} {v : Value} {l : List Int} (hn : n ≤ b) (h : Kd.Q (Kd.int .u8) 5 W b ok v l) : frame_Scan.Good n W v l := by
  obtain ⟨A, c, rfl, _⟩ := Kd.Q_slice h
  refine ⟨A, c, rfl, (Kd.Q_reads' h).2.1, fun W' hW => ?_⟩
  obtain ⟨h0, inner, hq, hr⟩ := h
  have hq' : QRow W' b 5 1 (.slice A l.length c) l.length inner := by
    refine ⟨hq.1, ?_⟩
    rcases hq.2 with ⟨e0, A', e1, hA⟩ | ⟨g, off, cap, cur, e1, hb, hg, rest⟩
    · refine .inl ⟨e0, A', e1, fun a ha => ?_⟩
      obtain ⟨hb, cur, hc⟩ := hA a ha
      exact ⟨hb, cur, (hW _ _ _ (Nat.le_trans hn hb) hc).trans hc⟩
    · exact .inr ⟨g, off, cap, cur, e1, hb, (hW _ _ _ (Nat.le_trans hn hb) hg).trans hg, rest⟩
  exact (Kd.Q_reads' (show Kd.Q (Kd.int .u8) 5 W' b ok (.slice A l.length c) l from ⟨h0, inner, hq', hr⟩)).2.2
theorem frame_Scan.grown {A B : World} (h : Below A.heap.size A B) : A.grownBy B none := ⟨h.os, h.tape, h.output, h.size, fun k hk _ => h.block k hk⟩
theorem frame_Scan.Inv.go {A0 : Option Addr} {len c0 : Nat} {w : World} {rc : Loop} {acc : List S26} {at_ : Int} {A B : World} (h : frame_Scan.Inv A0 len c0 w rc acc at_ A) (hb : Below A.heap.size A B) : frame_Scan.Inv A0 len c0 w rc acc at_ B := by
  obtain ⟨h1, h2, ⟨v, inner, h3, h4, h5⟩, h6, h7, h8⟩ := h
  have hg := frame_Scan.grown hb
  refine ⟨(hb.block _ (Array.getElem?_eq_some_iff.1 h1).1).trans h1, (hb.block _ (Array.getElem?_eq_some_iff.1 h2).1).trans h2, ⟨v, inner, h3.kept hg (by simp), h4.kept hg (by by_cases e : v.ownBlock = none; exact .inl e; exact .inr e), h5.imp_ (fun x cs hx => ?_)⟩, h6.kept hg (by simp), h7.kept hg (by simp), h8.trans (hb.mono h8.size)⟩
  obtain ⟨u, rfl, hu⟩ := hx
  exact ⟨u, rfl, hu.fix (frame_Scan.Fix.below hb)⟩
set_option maxHeartbeats 4000000 in
set_option maxRecDepth 100000 in
theorem frame_Scan.closure (k n : Nat) (fn : FuncId) (A0 : Option Addr) (c0 : Nat) (l0 : List Int) (w W : World) (rs : List S26) (re : Int) (hn : 1 ≤ n) (hr0 : Kd.C (Kd.int .u8) w A0 l0.length l0) (hc0 : l0.length ≤ c0)
    (hI : frame_Scan.Inv A0 l0.length c0 w (frame_Scan.rec fn w.heap.size (frame_Scan.tm w A0 l0.length c0) .ready none frame_Scan.assign frame_Scan.body) [] 0 W) (h : frame_Scan.f k l0 = some (rs, re)) :
    CallsIn Fence.wide n Try.prog 46 #[.func (.yield (w.heap.size + 4)) #[] #[], .pointer (some ⟨w.heap.size + 2, 0, none⟩)] W fun e W' => (∃ v, e = .returned v) ∧ frame_Scan.Inv A0 l0.length c0 w (frame_Scan.rec fn w.heap.size (frame_Scan.tm w A0 l0.length c0) .ready none frame_Scan.assign frame_Scan.body) rs re W' := by
  refine callsIn_of_wp Try.func46 rfl trivial ?_ rfl
  simp only [Try.ntmps46, List.size_toArray, List.length_cons, List.length_nil, Nat.reduceAdd, Nat.reduceSub, Array.replicate_succ, Array.replicate_zero, List.push_toArray, List.append_toArray, List.nil_append, List.cons_append]
  gi_wp2
  gi_loopw [3] (fun p wr => ∃ (kq : Nat) (acc : List S26) (at_ : Int), p = .int .i64 at_ ∧ 0 ≤ at_ ∧ at_ ≤ (l0.length : Int) ∧ frame_Scan.Inv A0 l0.length c0 w (frame_Scan.rec fn w.heap.size (frame_Scan.tm w A0 l0.length c0) .ready none frame_Scan.assign frame_Scan.body) acc at_ wr ∧ Aside0 (frame_Scan.l0 kq l0 acc at_ = some (rs, re)))
    (fun p wr => l0.length - (intOf p).toNat)
  case atStart => exact ⟨k, [], 0, rfl, by omega, by omega, hI, ⟨h⟩⟩
  case round =>
    obtain ⟨kq, acc, at_, rfl, h0, h1, hJ, hL⟩ := hrel
    cases kq with
    | zero => exact absurd hL.out (by simp [frame_Scan.l0])
    | succ kq =>
      have H := hL.out
      rw [frame_Scan.l0] at H
      obtain ⟨⟨kd, sr, body, nx, er⟩, hA, H⟩ := Option.bind_eq_some_iff.mp H
      dsimp only at H
      have HA := Aside0.mk hA
      have HH := Aside0.mk H
      have HJ := Aside0.mk hJ
      have hbc := hJ.box.cell
      have HR := Aside0.mk (Kd.C_below hr0 hJ.below)
      have H0 := Aside0.mk h0
      have H1 := Aside0.mk h1
      clear hA H hJ hL h0 h1
      by_cases her : er = 0
      · subst her
        have hl : acc.length < 3518437208883 := by
          have H := HH.out
          rw [if_pos rfl] at H
          by_cases hl : acc.length < 3518437208883
          · exact hl
          · rw [if_neg hl] at H
            exact absurd H (by simp)
        have hnx : at_ < nx ∧ nx ≤ (l0.length : Int) := by
          have H := HH.out
          rw [if_pos rfl, if_pos hl] at H
          by_cases hnx : at_ < nx ∧ nx ≤ (l0.length : Int)
          · exact hnx
          · rw [if_neg hnx] at H
            exact absurd H (by simp)
        have H' : Aside0 (frame_Scan.l0 kq l0 (acc ++ [(⟨kd, sr, body⟩ : S26)]) nx = some (rs, re)) := by
          have H := HH.out
          rw [if_pos rfl, if_pos hl, if_pos hnx] at H
          exact ⟨H⟩
        have HN := Aside0.mk hnx
        clear hnx
        gi_wp2_with (refine ⟨trivial, ?_⟩; gi_at_call 11; refine (callsIn_wide.2 (frame_Read.calls kq A0 c0 l0 at_ kd sr body nx 0 _ HR.out hc0 HA.out)).mono ?_; rintro e w1 ⟨v2, rfl, ho0, hb1⟩; obtain ⟨Ab, cb, eb, _⟩ := Kd.Q_slice ho0; subst eb)
        have hJ3 := HJ.out.go (hb1.trans (((Below.refl _ w1).alloc (Nat.le_refl _) (Obj.cells #[Value.int IntKind.u8 kd, Value.int IntKind.u64 sr, Value.slice Ab body.length cb] 26)).mono hb1.size))
        have hG3 := (frame_Scan.Good.of_Q HJ.out.below.size ho0).fix (frame_Scan.Fix.below ((Below.refl _ w1).alloc (Nat.le_refl _) (Obj.cells #[Value.int IntKind.u8 kd, Value.int IntKind.u64 sr, Value.slice Ab body.length cb] 26)))
        obtain ⟨fn', tm', as', bd', hy, hRnd⟩ := frame_Scan.round fn A0 l0.length c0 (n - 1) w _ acc at_ nx kd sr _ body hl hJ3 hG3 (fun e W' => e = .returned (.bool true) ∧ frame_Scan.Inv A0 l0.length c0 w (frame_Scan.rec fn w.heap.size (frame_Scan.tm w A0 l0.length c0) .ready none frame_Scan.assign frame_Scan.body) (acc ++ [⟨kd, sr, body⟩]) nx W') (fun W' h _ => ⟨rfl, h⟩)
        rw [hy]
        gi_wp2
        refine hRnd.mono ?_
        rintro e W5 ⟨rfl, hI5⟩
        gi_wp2
        have hn1 := HN.out
        have h0 := H0.out
        have h1 := H1.out
        go_roundw
        case rel => exact ⟨kq, acc ++ [⟨kd, sr, body⟩], nx, rfl, by omega, by omega, hI5, H'⟩
        case measure =>
          simp only [intOf]
          omega
      · have heb : (er != 0) = true := bne_iff_ne.mpr her
        gi_wp2_with (refine ⟨trivial, ?_⟩; gi_at_call 11; refine (callsIn_wide.2 (frame_Read.calls kq A0 c0 l0 at_ kd sr body nx er _ HR.out hc0 HA.out)).mono ?_; rintro e w1 ⟨v2, rfl, ho0, hb1⟩; obtain ⟨Ab, cb, eb, _⟩ := Kd.Q_slice ho0; subst eb)
        all_goals refine ⟨fun _ h => (by cases h), ?_⟩
        all_goals gi_wp2
        all_goals refine bodyPost_ret (results_none rfl _ _ _) rfl ?_
        all_goals have H := HH.out
        all_goals rw [if_neg her] at H
        all_goals obtain ⟨rfl, rfl⟩ := Prod.mk.inj (Option.some.inj H)
        all_goals exact ⟨⟨_, rfl⟩, HJ.out.go (hb1.trans (((Below.refl _ w1).alloc (Nat.le_refl _) (Obj.cells #[Value.int IntKind.u8 kd, Value.int IntKind.u64 sr, Value.slice Ab body.length cb] 26)).mono hb1.size))⟩
theorem frame_Scan.read {W : World} {b : Nat} {v : Value} {xs : List S26} {inner : List Value} (hr : W.ownsRow b 26 3 v xs.length inner) (he : Reps (frame_Scan.El b W) 3 xs inner) : Kd.V k26 26 W b (fun k_ => b ≤ k_) v xs := by
  have hV : ∀ W' : World, (∀ k : Nat, b ≤ k → k < W.heap.size → W'.heap[k]? = W.heap[k]?) → ∃ A c, v = .slice A xs.length c ∧ k26.C W' A xs.length xs := by
    intro W' hW
    have hF : frame_Scan.Fix b W W' := fun k cs fr hn hk => hW k hn (Array.getElem?_eq_some_iff.1 hk).1
    have hr' : W'.ownsRow b 26 3 v xs.length inner := by
      refine ⟨hr.1, hr.2.imp id ?_⟩
      rintro ⟨g, cap, cur, h1, h2, h3, rest⟩
      exact ⟨g, cap, cur, h1, h2, (hW g h2 (Array.getElem?_eq_some_iff.1 h3).1).trans h3, rest⟩
    have he' : Reps (k26.K W') 3 xs inner := he.imp_ (fun x cs hx => by obtain ⟨u, rfl, A, c, rfl, hc, hu⟩ := hx; exact k26_mk W' x hc (hu W' hF))
    exact own_reads_row hr' he' rfl
  obtain ⟨A, c, hv, _⟩ := hV W (fun _ _ _ => rfl)
  subst hv
  have hle := own_le hr
  refine ⟨A, c, rfl, hle, fun W' hW => ?_⟩
  obtain ⟨A', c', e, hC⟩ := hV W' hW
  obtain ⟨rfl, _, _⟩ := Value.slice.inj e
  exact hC
theorem frame_Scan.all (n : Nat) (A0 : Option Addr) (len c0 : Nat) (w : World) : CallsIn Fence.wide n Try.prog 36 #[.slice A0 len c0] w fun e w' => e = .returned (.func (.func 46) #[] #[.pointer (some ⟨w.heap.size, 0, none⟩)]) ∧ w' = w.alloc (.cells #[.slice A0 len c0] 22) := by
  refine callsIn_of_wp Try.func36 rfl trivial ?_ rfl
  simp only [Try.ntmps36, List.size_toArray, List.length_cons, List.length_nil, Nat.reduceAdd, Nat.reduceSub, Array.replicate_succ, Array.replicate_zero, List.push_toArray, List.append_toArray, List.nil_append, List.cons_append]
  gi_wp2
  go_ret
  exact ⟨rfl, rfl⟩
set_option maxHeartbeats 4000000 in
set_option maxRecDepth 100000 in
theorem frame_Scan.calls (k : Nat) (A0 : Option Addr) (c0 : Nat) (l0 : List Int) (r1 : List S26) (r2 : Int) (w : World) (hr0 : Kd.C (Kd.int .u8) w A0 l0.length l0) (hc0 : l0.length ≤ c0) (h : frame_Scan.f k l0 = some (r1, r2)) :
    Calls Try.prog 20 #[.slice A0 l0.length c0] w fun e w' => ∃ v0_ : Value, e = .returned (.tuple #[v0_, .int .i64 r2]) ∧ Kd.V k26 26 w' w.heap.size (fun k_ => w.heap.size ≤ k_) v0_ r1 ∧ Below w.heap.size w w' := by
  refine (callsIn_wide (n := 5)).1 ?_
  refine callsIn_of_wp_marks Try.func20 rfl trivial ?_ rfl
  simp only [Try.ntmps20, List.size_toArray, List.length_cons, List.length_nil, Nat.reduceAdd, Nat.reduceSub, Array.replicate_succ, Array.replicate_zero, List.push_toArray, List.append_toArray, List.nil_append, List.cons_append]
  have hn5 : 1 ≤ 5 := by decide
  gi_wp2_with (refine ⟨trivial, ?_⟩; gi_at_call 36; refine (frame_Scan.all _ A0 l0.length c0 _).mono ?_; rintro e w1 ⟨rfl, rfl⟩)
  obtain ⟨W0, hW0⟩ : ∃ W0, (((w.alloc (Obj.cells #[Value.slice none 0 0] 39)).alloc (Obj.cells #[Value.int IntKind.i64 0] 3)).alloc (Obj.cells #[Value.slice A0 l0.length c0] 22)) = W0 := ⟨_, rfl⟩
  have hsz : W0.heap.size = w.heap.size + 3 := by rw [← hW0]; simp
  have hb0 : Below w.heap.size w W0 := by rw [← hW0]; exact (((Below.refl _ w).alloc (Nat.le_refl _) _).alloc (by simp) _).alloc (by simp; omega) _
  have bL : Boxed W0 w.heap.size 39 (.slice none 0 0) := by rw [← hW0]; exact ((Boxed.new w 39 _).alloc _).alloc _
  have bT : Boxed W0 (w.heap.size + 1) 3 (.int .i64 0) := by
    rw [← hW0]
    have := (Boxed.new (w.alloc (Obj.cells #[Value.slice none 0 0] 39)) 3 (.int .i64 0)).alloc (Obj.cells #[Value.slice A0 l0.length c0] 22)
    rwa [World.size_alloc] at this
  have bB : Boxed W0 (w.heap.size + 2) 22 (.slice A0 l0.length c0) := by
    rw [← hW0]
    have := Boxed.new ((w.alloc (Obj.cells #[Value.slice none 0 0] 39)).alloc (Obj.cells #[Value.int IntKind.i64 0] 3)) 22 (.slice A0 l0.length c0)
    rwa [World.size_alloc, World.size_alloc] at this
  rw [hW0]
  clear hW0
  refine wpIn_rangeFunc ?_
  intro fn hfn
  have hE := run_enterLoop_outer (P := Try.prog) (w := W0) fn (frame_Scan.tm w A0 l0.length c0) #[10, 11] frame_Scan.assign frame_Scan.body
  rw [hsz] at hE
  obtain ⟨W1, hW1⟩ : ∃ W1, (W0.alloc (.deferred (some []))).alloc (.loop (frame_Scan.rec fn w.heap.size (frame_Scan.tm w A0 l0.length c0) .ready none frame_Scan.assign frame_Scan.body)) = W1 := ⟨_, rfl⟩
  have hI : frame_Scan.Inv A0 l0.length c0 w (frame_Scan.rec fn w.heap.size (frame_Scan.tm w A0 l0.length c0) .ready none frame_Scan.assign frame_Scan.body) [] 0 W1 := by
    rw [← hW1]
    refine ⟨?_, ?_, ⟨_, [], (bL.alloc _).alloc _, World.ownsRow_nil _ _ _ _, ⟨rfl, fun j p hj => by simp at hj⟩⟩, (bT.alloc _).alloc _, (bB.alloc _).alloc _, (hb0.alloc (by omega) _).alloc (by simp; omega) _⟩
    · have := World.alloc_heap_new (W0.alloc (.deferred (some []))) (.loop (frame_Scan.rec fn w.heap.size (frame_Scan.tm w A0 l0.length c0) .ready none frame_Scan.assign frame_Scan.body))
      rwa [World.size_alloc, hsz] at this
    · have := World.alloc_heap_new W0 (.deferred (some []))
      rw [hsz] at this
      exact (Below.heap_alloc _ _ _ (by simp; omega)).trans this
  refine ⟨w.heap.size + 4, [{ target := .collected (w.heap.size + 3), args := #[] }], W1, { target := .fn (.func 46) #[.pointer (some ⟨w.heap.size + 2, 0, none⟩)], args := #[.func (.yield (w.heap.size + 4)) #[] #[]] }, W1, 46, #[.func (.yield (w.heap.size + 4)) #[] #[], .pointer (some ⟨w.heap.size + 2, 0, none⟩)], W1, ?_, ?_, ?_, ?_, fun _ => by decide, ?_⟩
  · rw [← hW1]
    exact hE
  · simp only [resolve]
    simp [go_sem]
  · intro f' hf'
    trivial
  · simp [invoke, go_sem, enters_of Try.func46 (by kernel_rfl) rfl]
  · refine (frame_Scan.closure k 4 fn A0 c0 l0 w W1 r1 r2 (by decide) hr0 hc0 hI h).mono ?_
    rintro e W2 ⟨⟨v, rfl⟩, hI2⟩
    refine ⟨none, _, run_endLoop hI2.loop (by simp [frame_Scan.rec]), ?_⟩
    obtain ⟨hl, hd, ⟨v0, inner, hv, hrow, hreps⟩, hat, hbx, hb⟩ := hI2
    obtain ⟨W3, hW3⟩ : ∃ W3, W2.putObj (w.heap.size + 4) (.loop (frame_Scan.rec fn w.heap.size (frame_Scan.tm w A0 l0.length c0) .exhausted none frame_Scan.assign frame_Scan.body)) = W3 := ⟨_, rfl⟩
    have hf3 : frame_Scan.Fix w.heap.size W2 W3 := by rw [← hW3]; exact frame_Scan.Fix.put hl
    have hd3 : W3.heap[w.heap.size + 3]? = some (.deferred (some [])) := by rw [← hW3]; exact (World.putObj_heap_other (by omega)).trans hd
    have hv3 : Boxed W3 w.heap.size 39 v0 := by rw [← hW3]; exact (World.putObj_heap_other (by omega)).trans hv
    have hat3 : Boxed W3 (w.heap.size + 1) 3 (.int .i64 r2) := by rw [← hW3]; exact (World.putObj_heap_other (by omega)).trans hat
    have hrow3 : W3.ownsRow w.heap.size 26 3 v0 r1.length inner := by rw [← hW3]; exact ownsRow_putObj hrow _ hl rfl
    have hb3 : Below w.heap.size w W3 := by rw [← hW3]; exact hb.trans (belowK_b (w := w) (Nat.le_refl _) W2 (w.heap.size + 4) _ _ (by omega) hl rfl rfl)
    have hreps3 : Reps (frame_Scan.El w.heap.size W3) 3 r1 inner := hreps.imp_ (fun x cs hx => by obtain ⟨u, rfl, hu⟩ := hx; exact ⟨u, rfl, hu.fix hf3⟩)
    have hcv := hv3.cell
    have hct := hat3.cell
    show Exit.inBlock 0 _ Exit.normal { tmps := frame_Scan.tm w A0 l0.length c0, defers := [{ target := Target.collected (w.heap.size + 3), args := #[] }] } (W2.putObj (w.heap.size + 4) (.loop (frame_Scan.rec fn w.heap.size (frame_Scan.tm w A0 l0.length c0) .exhausted none frame_Scan.assign frame_Scan.body)))
    rw [hW3]
    unfold frame_Scan.tm
    clear hW3 hl hd hv hrow hreps hat hbx hb hf3
    gi_wp2
    have hmix : Try.prog.follows .mixedOrders = true := by kernel_rfl
    gi_region
    gi_wp2
    have hd4 : W3.drew.heap[w.heap.size + 3]? = some (.deferred (some [])) := hd3
    refine ⟨by simp, .inl ⟨_, _, rfl, run_takeDeferred hd4, ?_⟩⟩
    have hf5 : frame_Scan.Fix w.heap.size W3 (W3.drew.putObj (w.heap.size + 3) (.deferred none)) := frame_Scan.Fix.far hd3 (fun _ _ e => by cases e) (fun k hk _ => World.putObj_heap_other (w := W3.drew) hk)
    have hrow5 : (W3.drew.putObj (w.heap.size + 3) (.deferred none)).ownsRow w.heap.size 26 3 v0 r1.length inner := ownsRow_putObj (W := W3.drew) hrow3 _ hd4 rfl
    exact ⟨_, results_tmp2 rfl _ _ _, v0, rfl, frame_Scan.read hrow5 (hreps3.imp_ (fun x cs hx => by obtain ⟨u, rfl, hu⟩ := hx; exact ⟨u, rfl, hu.fix hf5⟩)), (hb3.drew).trans (belowK_b (w := w) (Nat.le_refl _) W3.drew (w.heap.size + 3) _ _ (by omega) hd4 rfl rfl)⟩

end Go.Proofs.Ytcajcbeioilgmaa.F
