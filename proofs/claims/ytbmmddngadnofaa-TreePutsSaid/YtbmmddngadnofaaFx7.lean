-- Written by ext (this session's own program).
-- in short rows (short.py)
import Derived.Test.YtbmmddngadnofaaFx0
import Derived.Test.YtbmmddngadnofaaFx6
import Derived.RangeFuncNested
import Derived.RangeFuncBound
import Derived.RangeFuncCalls
import Derived.RangeFuncLeaves
import Derived.RangeFuncBox
import Derived.Shelf.Abstract
import Derived.Shelf.RegionOpen
import Derived.OwnWalkIn
import Derived.TacticsInMore
import Derived.LoopNIn
import Derived.LoopIn
import Derived.Maps.AppendAt
namespace Go.Proofs.Ytbmmddngadnofaa.F
open Go.RowKit Go.Proofs.YtbmmddngadnofaaW.PrintWords Go.Proofs.YtbmmddngadnofaaW.PrintLast Go.Proofs.YtbmmddngadnofaaW.PrintMore
attribute [local go_sem] max2_int min2_int max_two min_two max_three min_three max_four min_four   -- for this text's walks alone
set_option linter.unusedVariables false
set_option linter.unusedSimpArgs false

/-! ### tree_above: function 47 -/
open Go.Shelf
attribute [local go_sem] Oper.semAt_some
def tree_above.parts (c : Option Code) : Code × Code := match c with
 | some (.seq _ (.seq _ (.seq (.seq _ (.block _ (.rangeFunc _ _ a b))) _))) => (a, b)
 | _ => (.skip, .skip)
noncomputable def tree_above.assign : Code := (tree_above.parts Try.f47.body).1
noncomputable def tree_above.body : Code := (tree_above.parts Try.f47.body).2
def tree_above.tm (w : World) (A0 : Option Addr) (len c0 : Nat) : Array Value := #[.slice A0 len c0, undef, .slice none 0 0, .pointer (some ⟨w.heap.size, 0, none⟩), undef, .slice A0 len c0, .func (.func 76) #[] #[.pointer (some ⟨w.heap.size + 1, 0, none⟩), .pointer (some ⟨w.heap.size + 2, 0, none⟩)], undef, undef, undef, undef, undef, undef, undef]
def tree_above.rec (fn : FuncId) (n0 : Nat) (tm : Array Value) (st : LoopState) (pe : Option Code) (assign body : Code) : Loop := { state := st, pending := pe, fn := fn, tmps := tm, params := #[7], assign := assign, body := body, defers := n0 + 3 }
structure tree_above.Inv (A0 : Option Addr) (len c0 : Nat) (w : World) (rc : Loop) (acc : List Int) (W : World) : Prop where
 loop : W.heap[w.heap.size + 4]? = some (.loop rc)
 defs : W.heap[w.heap.size + 3]? = some (.deferred (some []))
 row : ∃ v, Boxed W w.heap.size 40 v ∧ W.ownsRow w.heap.size 25 1 v acc.length (nums .u32 acc)
 sbox : Boxed W (w.heap.size + 1) 40 (.slice A0 len c0)
 nbox : Boxed W (w.heap.size + 2) 3 (.int .i64 4)
 below : Below w.heap.size w W
theorem tree_above.grown {A B : World} (h : Below A.heap.size A B) : A.grownBy B none := ⟨h.os, h.tape, h.output, h.size, fun k hk _ => h.block k hk⟩
theorem tree_above.orNone (v : Value) : v.ownBlock = none ∨ v.ownBlock ≠ none := by
 by_cases e : v.ownBlock = none
 ·exact .inl e
 ·exact .inr e
theorem tree_above.info_ : (Try.prog.info? 25).map (fun i => (i.zero, i.size, i.bytes)) = some (some (.int .u32 0), 1, 4) := by kernel_rfl
theorem region_append {F : Fence} {n : Nat} {P : Program} (w : World) {ops : Array Oper} {o : Oper} {a : Act} {K : Act → World → Prop} {Q : Exit → Act → World → Prop} (s x : Operand) (t : TypeId) (hop : o.op = Op.call { callee := Callee.builtin Builtin.append, args := #[s, x], argTypes := #[t, t] })
  (hw : Region.wanted o (yielded ops a.tmps) = true) (v sl v' : Value) (w' : World) (hs : a.eval s = v) (hx : a.eval x = sl) (hrun : (Builtin.append_ #[t, t] o.type #[v, sl]).run P w = .ok v' w') (hK : K (a.put o.dst v') w') :
  if Region.wanted o (yielded ops a.tmps) = true then Oper.wpIn F n P o a w K Q else (∀ f, o.about P w a.eval = some f → F.fn f) ∧ K (a.put o.dst undef) w := by
 rw [if_pos hw]
 unfold Oper.wpIn
 refine ⟨?_, ?_⟩
 ·simp [Oper.about, hop, resolve, Target.leads, Sem.run_pure]
 ·rw [Oper.semAt_plain F _ _ (by rw [hop]; intro c hc'; cases hc')]
  simp [execOp, hop, resolve, invoke, builtin, hs, hx, hrun, Result.andThen]
  exact hK
set_option maxHeartbeats 4000000 in
set_option maxRecDepth 100000 in
theorem tree_above.fin (fn : FuncId) (A0 : Option Addr) (len c0 m : Nat) (w W2 w1 w' : World) (acc : List Int) (r : Int) (g' cap' : Nat) (v : Value) (R : Ending → World → Prop) (a : Act)
  (hl2 : W2.heap[w.heap.size + 4]? = some (.loop (tree_above.rec fn w.heap.size (tree_above.tm w A0 len c0) .busy none tree_above.assign tree_above.body)))
  (hd2 : W2.heap[w.heap.size + 3]? = some (Obj.deferred (some []))) (hsb2 : Boxed W2 (w.heap.size + 1) 40 (.slice A0 len c0)) (hnb2 : Boxed W2 (w.heap.size + 2) 3 (.int .i64 4)) (hb2 : Below w.heap.size w W2)
  (hb1 : Below W2.drew.heap.size W2.drew w1) (hv3 : Boxed w1 w.heap.size 40 v) (hrow3 : w1.ownsRow w.heap.size 25 1 v acc.length (nums .u32 acc)) (hgrow : (w1.alloc (Obj.cells #[.int .u32 r] 25)).grownBy w' v.ownBlock)
  (hv5 : Boxed (w'.setCell ⟨w.heap.size, 0, none⟩ (.slice (some ⟨g', 0, none⟩) (acc.length + 1) cap')) w.heap.size 40 (.slice (some ⟨g', 0, none⟩) (acc.length + 1) cap'))
  (hrow5 : (w'.setCell ⟨w.heap.size, 0, none⟩ (.slice (some ⟨g', 0, none⟩) (acc.length + 1) cap')).ownsRow w.heap.size 25 1 (.slice (some ⟨g', 0, none⟩) (acc.length + 1) cap') (acc.length + 1) (nums .u32 acc ++ [.int .u32 r]))
  (hko5 : KeepsOthers w1 (w'.setCell ⟨w.heap.size, 0, none⟩ (.slice (some ⟨g', 0, none⟩) (acc.length + 1) cap')))
  (hbl5 : Below w.heap.size w1 (w'.setCell ⟨w.heap.size, 0, none⟩ (.slice (some ⟨g', 0, none⟩) (acc.length + 1) cap')))
  (hR : ∀ W', tree_above.Inv A0 len c0 w (tree_above.rec fn w.heap.size (tree_above.tm w A0 len c0) .ready none tree_above.assign tree_above.body) (acc ++ [r]) W' → R (.returned (.bool true)) W') :
  roundPost Try.prog (w.heap.size + 4) R Exit.normal a (w'.setCell ⟨w.heap.size, 0, none⟩ (.slice (some ⟨g', 0, none⟩) (acc.length + 1) cap')) := by
 have hl3 := (hb1.block _ (Array.getElem?_eq_some_iff.1 hl2).1).trans hl2
 have hd3 := (hb1.block _ (Array.getElem?_eq_some_iff.1 hd2).1).trans hd2
 have hs3 : Boxed w1 (w.heap.size + 1) 40 (.slice A0 len c0) := (show Boxed W2.drew (w.heap.size + 1) 40 (.slice A0 len c0) from hsb2).kept (tree_above.grown hb1) (by simp)
 have hn3 : Boxed w1 (w.heap.size + 2) 3 (.int .i64 4) := (show Boxed W2.drew (w.heap.size + 2) 3 (.int .i64 4) from hnb2).kept (tree_above.grown hb1) (by simp)
 have hs4 := ((hs3.alloc (Obj.cells #[.int .u32 r] 25)).kept hgrow ((hs3.alloc (Obj.cells #[.int .u32 r] 25)).not_row (by decide) (hrow3.alloc (Obj.cells #[.int .u32 r] 25)))).other (B' := w.heap.size) (by omega) (Value.slice (some { block := g', off := 0 }) (acc.length + 1) cap')
 have hn4 := ((hn3.alloc (Obj.cells #[.int .u32 r] 25)).kept hgrow ((hn3.alloc (Obj.cells #[.int .u32 r] 25)).not_row (by decide) (hrow3.alloc (Obj.cells #[.int .u32 r] 25)))).other (B' := w.heap.size) (by omega) (Value.slice (some { block := g', off := 0 }) (acc.length + 1) cap')
 have hl5 := hko5.same _ _ hl3 rfl
 have hd5 := hko5.same _ _ hd3 rfl
 have hb5 := (hb2.trans ((Below.refl _ W2).drew.trans (hb1.mono hb2.size))).trans hbl5
 obtain ⟨W4, hW4⟩ : ∃ W4, (w'.setCell ⟨w.heap.size, 0, none⟩ (.slice (some ⟨g', 0, none⟩) (acc.length + 1) cap')) = W4 := ⟨_, rfl⟩
 rw [hW4] at hv5 hrow5 hs4 hn4 hl5 hd5 hb5 ⊢
 refine ⟨_, _, run_endRound none hl5, hR _ ⟨?_, ?_, ⟨_, (World.putObj_heap_other (by omega)).trans hv5, ?_⟩, (World.putObj_heap_other (by omega)).trans hs4, (World.putObj_heap_other (by omega)).trans hn4, ?_⟩⟩
 ·exact World.putObj_heap_same (Array.getElem?_eq_some_iff.1 hl5).1
 ·exact (World.putObj_heap_other (by omega)).trans hd5
 ·rw [List.length_append]
  have := ownsRow_putObj hrow5 (.loop (tree_above.rec fn w.heap.size (tree_above.tm w A0 len c0) .ready none tree_above.assign tree_above.body)) hl5 rfl
  simpa [nums, tree_above.rec] using this
 ·exact hb5.trans (belowK_b (w := w) (Nat.le_refl _) W4 (w.heap.size + 4) _ _ (by omega) hl5 rfl rfl)
set_option maxHeartbeats 4000000 in
set_option maxRecDepth 100000 in
theorem tree_above.round (fn : FuncId) (A0 : Option Addr) (len c0 m k : Nat) (w W : World) (acc : List Int) (Ac : Option Addr) (cc : Nat) (chunk : List Int) (r : Int) (hlen : acc.length < 35184372088832)
  (hI : tree_above.Inv A0 len c0 w (tree_above.rec fn w.heap.size (tree_above.tm w A0 len c0) .ready none tree_above.assign tree_above.body) acc W) (hC : Kd.C (Kd.int .u32) w Ac chunk.length chunk) (hcc : chunk.length ≤ cc) (hA : tree_Row.f k chunk = some r) (hm : 1 ≤ m) (R : Ending → World → Prop)
  (hR : ∀ W', tree_above.Inv A0 len c0 w (tree_above.rec fn w.heap.size (tree_above.tm w A0 len c0) .ready none tree_above.assign tree_above.body) (acc ++ [r]) W' → R (.returned (.bool true)) W') :
  YieldAt Fence.wide m Try.prog (w.heap.size + 4) #[.slice Ac chunk.length cc] W R := by
 obtain ⟨hloop, hdefs, ⟨v, hv, hrow⟩, hsb, hnb, hb⟩ := hI
 refine ⟨fn, _, tree_above.assign, tree_above.body, run_yield hloop rfl, roundIn_of_wpIn trivial ?_⟩
 unfold tree_above.assign tree_above.rec tree_above.tm tree_above.parts Try.f47
 dsimp only
 gi_wp2
 refine ⟨_, run_beginRound hloop rfl, ?_⟩
 obtain ⟨W2, hW2⟩ : ∃ W2, W.putObj (w.heap.size + 4) (.loop (tree_above.rec fn w.heap.size (tree_above.tm w A0 len c0) .busy none tree_above.assign tree_above.body)) = W2 := ⟨_, rfl⟩
 have hl2 : W2.heap[w.heap.size + 4]? = some (.loop (tree_above.rec fn w.heap.size (tree_above.tm w A0 len c0) .busy none tree_above.assign tree_above.body)) := by rw [← hW2]; exact World.putObj_heap_same (Array.getElem?_eq_some_iff.1 hloop).1
 have hd2 : W2.heap[w.heap.size + 3]? = some (Obj.deferred (some [])) := by rw [← hW2]; exact (World.putObj_heap_other (by omega)).trans hdefs
 have hv2 : Boxed W2 w.heap.size 40 v := by rw [← hW2]; exact (World.putObj_heap_other (by omega)).trans hv
 have hsb2 : Boxed W2 (w.heap.size + 1) 40 (.slice A0 len c0) := by rw [← hW2]; exact (World.putObj_heap_other (by omega)).trans hsb
 have hnb2 : Boxed W2 (w.heap.size + 2) 3 (.int .i64 4) := by rw [← hW2]; exact (World.putObj_heap_other (by omega)).trans hnb
 have hrow2 : W2.ownsRow w.heap.size 25 1 v acc.length (nums .u32 acc) := by rw [← hW2]; exact ownsRow_putObj hrow _ hloop rfl
 have hb2 : Below w.heap.size w W2 := by rw [← hW2]; exact hb.trans (belowK_b (w := w) (Nat.le_refl _) W (w.heap.size + 4) _ _ (by omega) hloop rfl rfl)
 have hC2 : Kd.C (Kd.int .u32) W2 Ac chunk.length chunk := Kd.C_below hC hb2
 change tree_above.body.wpIn _ _ _ _ _ (W.putObj (w.heap.size + 4) (.loop (tree_above.rec fn w.heap.size (tree_above.tm w A0 len c0) .busy none tree_above.assign tree_above.body)))
 rw [hW2]
 clear hW2 hloop hdefs hv hsb hnb hrow hb hC
 obtain ⟨i0, hi, hz0, hz1, hz2⟩ := info_parts tree_above.info_
 have hcv := hv2.cell
 have hsz := hb2.size
 have hmix : Try.prog.follows .mixedOrders = true := by kernel_rfl
 unfold tree_above.body tree_above.parts Try.f47
 dsimp only
 gi_wp2
 have hfz := hv2.frozen
 refine wpIn_region_any (by assumption) ?_
 try (change wpAnyIn _ _ _ _ _ _ _ _ _ (World.drew _))
 refine wpAnyIn_ready (rs := [0, 1]) (by kernel_rfl) (by simp) ?_
 refine AllReadyIn.cons rfl (fun K hK => ?_) ?_
 ·go_simp
  refine hK _ _ ?_; clear hK K
  refine wpAnyIn_ready (rs := [1]) (by kernel_rfl) (by simp) ?_
  refine AllReadyIn.cons rfl (fun K hK => ?_) AllReadyIn.nil
  go_simp
  refine hK _ _ ?_; clear hK K
  refine wpAnyIn_ready (rs := [2]) (by kernel_rfl) (by simp) ?_
  refine AllReadyIn.cons rfl (fun K hK => ?_) AllReadyIn.nil
  go_simp
  gi_wp2_with (refine ⟨trivial, ?_⟩; refine (CallsIn.inRound (w.heap.size + 4) (callsIn_wide.2 (tree_Row.calls k Ac cc chunk r _ (upC hC2) hcc hA))).mono ?_; rintro e w1 ⟨rfl, hb1⟩)
  have hv3 : Boxed w1 w.heap.size 40 v := (show Boxed W2.drew w.heap.size 40 v from hv2).kept (tree_above.grown hb1) (by simp)
  have hrow3 : w1.ownsRow w.heap.size 25 1 v acc.length (nums .u32 acc) := (show W2.drew.ownsRow w.heap.size 25 1 v acc.length (nums .u32 acc) from hrow2).kept (tree_above.grown hb1) (tree_above.orNone _)
  have hcv3 := hv3.cell
  have hcv3' := (hv3.alloc (.cells #[.int .u32 r] 25)).cell
  refine wpAnyIn_ready (rs := [3]) (by kernel_rfl) (by simp) ?_
  refine AllReadyIn.cons rfl (fun K hK => ?_) AllReadyIn.nil
  go_simp
  refine hK _ _ ?_; clear hK K
  refine wpAnyIn_ready (rs := [4]) (by kernel_rfl) (by simp) ?_
  refine AllReadyIn.cons rfl (fun K hK => ?_) AllReadyIn.nil
  obtain ⟨v', w', hrun, hown', hgrow, hnil⟩ := run_append_own (P := Try.prog) (w1.alloc (.cells #[.int .u32 r] 25)) w.heap.size 40 40 25 i0 _ 1 4 Try.underlying40 hi hz0 hz1 hz2 rfl (by decide) v acc.length _ (hrow3.alloc _) ⟨w1.heap.size, 0, none⟩ 1 1 [.int .u32 r] rfl (cell_one_new _ _ _) (by simp [Value.oneCell']) (by simp only [maxLen]; omega) (by omega) (by have := hb1.size; simp at this ⊢; omega)
  refine region_append _ (.tmp 8) (.tmp 11) 40 rfl (by rfl) v _ v' w' (by rfl) (by rfl) hrun ?_
  refine hK _ _ ?_; clear hK K
  obtain ⟨hv4, hv5, hrow5, hko5, hbl5⟩ := hv3.appended (by decide) hrow3 (by have := hb1.size; simp at this ⊢; omega) (Nat.le_refl _) hown' hgrow
  obtain ⟨g', cap', rfl⟩ := ownsRow_succ hown'
  have hcv4 := hv4.cell; have hfz4 := hv4.frozen
  refine wpAnyIn_ready (rs := [5]) (by kernel_rfl) (by simp) ?_
  refine AllReadyIn.cons rfl (fun K hK => ?_) AllReadyIn.nil
  go_simp
  refine hK _ _ ?_; clear hK K
  refine wpAnyIn_done (by kernel_rfl) ?_ _
  gi_wp2
  exact tree_above.fin fn A0 len c0 m w W2 w1 w' acc r g' cap' v R _ hl2 hd2 hsb2 hnb2 hb2 hb1 hv3 hrow3 hgrow hv5 hrow5 hko5 hbl5 hR
 refine AllReadyIn.cons rfl (fun K hK => ?_) AllReadyIn.nil
 go_simp
 refine hK _ _ ?_; clear hK K
 refine wpAnyIn_ready (rs := [0, 2]) (by kernel_rfl) (by simp) ?_
 refine AllReadyIn.cons rfl (fun K hK => ?_) ?_
 ·go_simp
  refine hK _ _ ?_; clear hK K
  refine wpAnyIn_ready (rs := [2]) (by kernel_rfl) (by simp) ?_
  refine AllReadyIn.cons rfl (fun K hK => ?_) AllReadyIn.nil
  go_simp
  gi_wp2_with (refine ⟨trivial, ?_⟩; refine (CallsIn.inRound (w.heap.size + 4) (callsIn_wide.2 (tree_Row.calls k Ac cc chunk r _ (upC hC2) hcc hA))).mono ?_; rintro e w1 ⟨rfl, hb1⟩)
  have hv3 : Boxed w1 w.heap.size 40 v := (show Boxed W2.drew w.heap.size 40 v from hv2).kept (tree_above.grown hb1) (by simp)
  have hrow3 : w1.ownsRow w.heap.size 25 1 v acc.length (nums .u32 acc) := (show W2.drew.ownsRow w.heap.size 25 1 v acc.length (nums .u32 acc) from hrow2).kept (tree_above.grown hb1) (tree_above.orNone _)
  have hcv3 := hv3.cell
  have hcv3' := (hv3.alloc (.cells #[.int .u32 r] 25)).cell
  refine wpAnyIn_ready (rs := [3]) (by kernel_rfl) (by simp) ?_
  refine AllReadyIn.cons rfl (fun K hK => ?_) AllReadyIn.nil
  go_simp
  refine hK _ _ ?_; clear hK K
  refine wpAnyIn_ready (rs := [4]) (by kernel_rfl) (by simp) ?_
  refine AllReadyIn.cons rfl (fun K hK => ?_) AllReadyIn.nil
  obtain ⟨v', w', hrun, hown', hgrow, hnil⟩ := run_append_own (P := Try.prog) (w1.alloc (.cells #[.int .u32 r] 25)) w.heap.size 40 40 25 i0 _ 1 4 Try.underlying40 hi hz0 hz1 hz2 rfl (by decide) v acc.length _ (hrow3.alloc _) ⟨w1.heap.size, 0, none⟩ 1 1 [.int .u32 r] rfl (cell_one_new _ _ _) (by simp [Value.oneCell']) (by simp only [maxLen]; omega) (by omega) (by have := hb1.size; simp at this ⊢; omega)
  refine region_append _ (.tmp 8) (.tmp 11) 40 rfl (by rfl) v _ v' w' (by rfl) (by rfl) hrun ?_
  refine hK _ _ ?_; clear hK K
  obtain ⟨hv4, hv5, hrow5, hko5, hbl5⟩ := hv3.appended (by decide) hrow3 (by have := hb1.size; simp at this ⊢; omega) (Nat.le_refl _) hown' hgrow
  obtain ⟨g', cap', rfl⟩ := ownsRow_succ hown'
  have hcv4 := hv4.cell; have hfz4 := hv4.frozen
  refine wpAnyIn_ready (rs := [5]) (by kernel_rfl) (by simp) ?_
  refine AllReadyIn.cons rfl (fun K hK => ?_) AllReadyIn.nil
  go_simp
  refine hK _ _ ?_; clear hK K
  refine wpAnyIn_done (by kernel_rfl) ?_ _
  gi_wp2
  exact tree_above.fin fn A0 len c0 m w W2 w1 w' acc r g' cap' v R _ hl2 hd2 hsb2 hnb2 hb2 hb1 hv3 hrow3 hgrow hv5 hrow5 hko5 hbl5 hR
 refine AllReadyIn.cons rfl (fun K hK => ?_) AllReadyIn.nil
 go_simp
 gi_wp2_with (refine ⟨trivial, ?_⟩; refine (CallsIn.inRound (w.heap.size + 4) (callsIn_wide.2 (tree_Row.calls k Ac cc chunk r _ (upC hC2) hcc hA))).mono ?_; rintro e w1 ⟨rfl, hb1⟩)
 have hv3 : Boxed w1 w.heap.size 40 v := (show Boxed W2.drew w.heap.size 40 v from hv2).kept (tree_above.grown hb1) (by simp)
 have hrow3 : w1.ownsRow w.heap.size 25 1 v acc.length (nums .u32 acc) := (show W2.drew.ownsRow w.heap.size 25 1 v acc.length (nums .u32 acc) from hrow2).kept (tree_above.grown hb1) (tree_above.orNone _)
 have hcv3 := hv3.cell
 have hcv3' := (hv3.alloc (.cells #[.int .u32 r] 25)).cell
 refine wpAnyIn_ready (rs := [0, 3]) (by kernel_rfl) (by simp) ?_
 refine AllReadyIn.cons rfl (fun K hK => ?_) ?_
 ·go_simp
  refine hK _ _ ?_; clear hK K
  refine wpAnyIn_ready (rs := [3]) (by kernel_rfl) (by simp) ?_
  refine AllReadyIn.cons rfl (fun K hK => ?_) AllReadyIn.nil
  go_simp
  refine hK _ _ ?_; clear hK K
  refine wpAnyIn_ready (rs := [4]) (by kernel_rfl) (by simp) ?_
  refine AllReadyIn.cons rfl (fun K hK => ?_) AllReadyIn.nil
  obtain ⟨v', w', hrun, hown', hgrow, hnil⟩ := run_append_own (P := Try.prog) (w1.alloc (.cells #[.int .u32 r] 25)) w.heap.size 40 40 25 i0 _ 1 4 Try.underlying40 hi hz0 hz1 hz2 rfl (by decide) v acc.length _ (hrow3.alloc _) ⟨w1.heap.size, 0, none⟩ 1 1 [.int .u32 r] rfl (cell_one_new _ _ _) (by simp [Value.oneCell']) (by simp only [maxLen]; omega) (by omega) (by have := hb1.size; simp at this ⊢; omega)
  refine region_append _ (.tmp 8) (.tmp 11) 40 rfl (by rfl) v _ v' w' (by rfl) (by rfl) hrun ?_
  refine hK _ _ ?_; clear hK K
  obtain ⟨hv4, hv5, hrow5, hko5, hbl5⟩ := hv3.appended (by decide) hrow3 (by have := hb1.size; simp at this ⊢; omega) (Nat.le_refl _) hown' hgrow
  obtain ⟨g', cap', rfl⟩ := ownsRow_succ hown'
  have hcv4 := hv4.cell; have hfz4 := hv4.frozen
  refine wpAnyIn_ready (rs := [5]) (by kernel_rfl) (by simp) ?_
  refine AllReadyIn.cons rfl (fun K hK => ?_) AllReadyIn.nil
  go_simp
  refine hK _ _ ?_; clear hK K
  refine wpAnyIn_done (by kernel_rfl) ?_ _
  gi_wp2
  exact tree_above.fin fn A0 len c0 m w W2 w1 w' acc r g' cap' v R _ hl2 hd2 hsb2 hnb2 hb2 hb1 hv3 hrow3 hgrow hv5 hrow5 hko5 hbl5 hR
 refine AllReadyIn.cons rfl (fun K hK => ?_) AllReadyIn.nil
 go_simp
 refine hK _ _ ?_; clear hK K
 refine wpAnyIn_ready (rs := [0]) (by kernel_rfl) (by simp) ?_
 refine AllReadyIn.cons rfl (fun K hK => ?_) AllReadyIn.nil
 go_simp
 refine hK _ _ ?_; clear hK K
 refine wpAnyIn_ready (rs := [4]) (by kernel_rfl) (by simp) ?_
 refine AllReadyIn.cons rfl (fun K hK => ?_) AllReadyIn.nil
 obtain ⟨v', w', hrun, hown', hgrow, hnil⟩ := run_append_own (P := Try.prog) (w1.alloc (.cells #[.int .u32 r] 25)) w.heap.size 40 40 25 i0 _ 1 4 Try.underlying40 hi hz0 hz1 hz2 rfl (by decide) v acc.length _ (hrow3.alloc _) ⟨w1.heap.size, 0, none⟩ 1 1 [.int .u32 r] rfl (cell_one_new _ _ _) (by simp [Value.oneCell']) (by simp only [maxLen]; omega) (by omega) (by have := hb1.size; simp at this ⊢; omega)
 refine region_append _ (.tmp 8) (.tmp 11) 40 rfl (by rfl) v _ v' w' (by rfl) (by rfl) hrun ?_
 refine hK _ _ ?_; clear hK K
 obtain ⟨hv4, hv5, hrow5, hko5, hbl5⟩ := hv3.appended (by decide) hrow3 (by have := hb1.size; simp at this ⊢; omega) (Nat.le_refl _) hown' hgrow
 obtain ⟨g', cap', rfl⟩ := ownsRow_succ hown'
 have hcv4 := hv4.cell; have hfz4 := hv4.frozen
 refine wpAnyIn_ready (rs := [5]) (by kernel_rfl) (by simp) ?_
 refine AllReadyIn.cons rfl (fun K hK => ?_) AllReadyIn.nil
 go_simp
 refine hK _ _ ?_; clear hK K
 refine wpAnyIn_done (by kernel_rfl) ?_ _
 gi_wp2
 exact tree_above.fin fn A0 len c0 m w W2 w1 w' acc r g' cap' v R _ hl2 hd2 hsb2 hnb2 hb2 hb1 hv3 hrow3 hgrow hv5 hrow5 hko5 hbl5 hR
def tree_above.l0 : Nat → List Int → List Int → Int → Option (List Int)
 | 0, _, _, _ => none
 | k + 1, l, acc, i => if i < (l.length : Int) then (if l.length < 35184372088832 then (tree_Row.f k ((l.take (i + (if (4 : Int) ≤ (l.length : Int) - i then 4 else (l.length : Int) - i)).toNat).drop i.toNat)).bind fun r => tree_above.l0 k l (acc ++ [r]) (i + 4) else none) else some acc
def tree_above.f (k : Nat) (l : List Int) : Option (List Int) := tree_above.l0 k l [] 0
theorem tree_above.mono_l : ∀ k, (∀ y0 y1 y2, LeO (tree_above.l0 k y0 y1 y2) (tree_above.l0 (k + 1) y0 y1 y2))
 | 0 => fun _ _ _ r h => by simp [tree_above.l0] at h
 | k + 1 => by
  have ih0 := tree_above.mono_l k
  intro y0 y1 y2
  unfold tree_above.l0
  repeat' first
   | (with_reducible exact ih0 _ _ _)
   | (with_reducible exact tree_Row.mono _ _)
   | (with_reducible exact LeO.refl _)
   | (with_reducible exact LeO.none _)
   | (with_reducible refine LeO.ite ?_ ?_)
   | (with_reducible refine LeO.bind ?_ (fun _ => ?_))
theorem tree_above.mono : ∀ a0 k, LeO (tree_above.f k a0) (tree_above.f (k + 1) a0) := fun a0 k => tree_above.mono_l k a0 [] 0
theorem tree_above.Inv.go {A0 : Option Addr} {len c0 : Nat} {w : World} {rc : Loop} {acc : List Int} {A B : World} (h : tree_above.Inv A0 len c0 w rc acc A) (hb : Below A.heap.size A B) : tree_above.Inv A0 len c0 w rc acc B := by
 obtain ⟨h1, h2, ⟨v, h3, h4⟩, h6, h7, h8⟩ := h
 have hg := tree_above.grown hb
 exact ⟨(hb.block _ (Array.getElem?_eq_some_iff.1 h1).1).trans h1, (hb.block _ (Array.getElem?_eq_some_iff.1 h2).1).trans h2, ⟨v, h3.kept hg (by simp), h4.kept hg (tree_above.orNone _)⟩, h6.kept hg (by simp), h7.kept hg (by simp), h8.trans (hb.mono h8.size)⟩
theorem tree_above.yield (k n : Nat) (fn : FuncId) (A0 : Option Addr) (c0 : Nat) (l0 : List Int) (w wr : World) (acc : List Int) (i e r : Int) (hn : 2 ≤ n) (hr0 : Kd.C (Kd.int .u32) w A0 l0.length l0) (hc0 : l0.length ≤ c0)
  (h0 : 0 ≤ i) (he : 0 < e) (hie : i + e ≤ (l0.length : Int)) (hlen : acc.length < 35184372088832) (hA : tree_Row.f k ((l0.take (i + e).toNat).drop i.toNat) = some r)
  (hJ : tree_above.Inv A0 l0.length c0 w (tree_above.rec fn w.heap.size (tree_above.tm w A0 l0.length c0) .ready none tree_above.assign tree_above.body) acc wr) :
  YieldAt Fence.wide (n - 1) Try.prog (w.heap.size + 4) #[.slice (Option.map (fun x => x.add i.toNat) A0) ((i + e).toNat - i.toNat) ((i + e).toNat - i.toNat)] wr.drew (fun e' W' => e' = .returned (.bool true) ∧ tree_above.Inv A0 l0.length c0 w (tree_above.rec fn w.heap.size (tree_above.tm w A0 l0.length c0) .ready none tree_above.assign tree_above.body) (acc ++ [r]) W') := by
 have hl : ((l0.take (i + e).toNat).drop i.toNat).length = (i + e).toNat - i.toNat := by rw [List.length_drop, List.length_take]; omega
 have hm := Kd.C_mid (lo := i.toNat) (hi := (i + e).toNat) (c := c0) hr0 (by omega) (by omega) hc0
 rw [if_neg (by omega), show i.toNat * (Kd.int .u32).sz = i.toNat from Nat.mul_one _] at hm
 have := tree_above.round fn A0 l0.length c0 (n - 1) k w wr.drew acc (Option.map (fun x => x.add i.toNat) A0) _ _ r hlen (hJ.go (Below.refl _ wr).drew) hm (Nat.le_refl _) hA (by omega) (fun e' W' => e' = .returned (.bool true) ∧ tree_above.Inv A0 l0.length c0 w (tree_above.rec fn w.heap.size (tree_above.tm w A0 l0.length c0) .ready none tree_above.assign tree_above.body) (acc ++ [r]) W') (fun W' h => ⟨rfl, h⟩)
 rwa [hl] at this
set_option maxHeartbeats 4000000 in
set_option maxRecDepth 100000 in
theorem tree_above.closure (k n : Nat) (fn : FuncId) (A0 : Option Addr) (c0 : Nat) (l0 : List Int) (w W : World) (rs : List Int) (hn : 2 ≤ n) (hr0 : Kd.C (Kd.int .u32) w A0 l0.length l0) (hc0 : l0.length ≤ c0)
  (hI : tree_above.Inv A0 l0.length c0 w (tree_above.rec fn w.heap.size (tree_above.tm w A0 l0.length c0) .ready none tree_above.assign tree_above.body) [] W) (h : tree_above.f k l0 = some rs) :
  CallsIn Fence.wide n Try.prog 76 #[.func (.yield (w.heap.size + 4)) #[] #[], .pointer (some ⟨w.heap.size + 1, 0, none⟩), .pointer (some ⟨w.heap.size + 2, 0, none⟩)] W fun e W' => (∃ v, e = .returned v) ∧ tree_above.Inv A0 l0.length c0 w (tree_above.rec fn w.heap.size (tree_above.tm w A0 l0.length c0) .ready none tree_above.assign tree_above.body) rs W' := by
 refine callsIn_of_wp Try.func76 rfl trivial ?_ rfl
 simp only [Try.ntmps76, List.size_toArray, List.length_cons, List.length_nil, Nat.reduceAdd, Nat.reduceSub, Array.replicate_succ, Array.replicate_zero, List.push_toArray, List.append_toArray, List.nil_append, List.cons_append]
 gi_wp2
 gi_loopw [4] (fun p wr => ∃ (kq : Nat) (acc : List Int) (i : Int), p = .int .i64 i ∧ 0 ≤ i ∧ i ≤ (l0.length : Int) + 3 ∧ (acc.length : Int) ≤ i ∧ tree_above.Inv A0 l0.length c0 w (tree_above.rec fn w.heap.size (tree_above.tm w A0 l0.length c0) .ready none tree_above.assign tree_above.body) acc wr ∧ Aside0 (tree_above.l0 kq l0 acc i = some rs))
  (fun p wr => l0.length - (intOf p).toNat)
 case atStart => exact ⟨k, [], 0, rfl, by omega, by omega, by simp, hI, ⟨h⟩⟩
 case round =>
  obtain ⟨kq, acc, i, rfl, h0, h1, ha, hJ, hL⟩ := hrel
  cases kq with
  | zero => exact absurd hL.out (by simp [tree_above.l0])
  | succ kq =>
   have H := hL.out
   rw [tree_above.l0] at H
   have hsb := hJ.sbox.cell
   have hnb := hJ.nbox.cell
   by_cases hi : i < (l0.length : Int)
   ·rw [if_pos hi] at H
    by_cases hlen : l0.length < 35184372088832
    ·rw [if_pos hlen] at H
     obtain ⟨r, hA, H⟩ := Option.bind_eq_some_iff.mp H
     obtain ⟨e, he⟩ : ∃ e : Int, e = (if (4 : Int) ≤ (l0.length : Int) - i then 4 else (l0.length : Int) - i) := ⟨_, rfl⟩
     rw [← he] at hA
     have he0 : 0 < e := by rw [he]; split <;> omega
     have hie : i + e ≤ (l0.length : Int) := by rw [he]; split <;> omega
     obtain ⟨i0, hi0, hz0, hz1, hz2⟩ := info_parts tree_above.info_
     have hcf := cut_from (P := Try.prog) 40 25 .i64 Try.underlying40 hi0 1 hz1 A0 l0.length c0 i h0 (by omega)
     have hmix : Try.prog.follows .mixedOrders = true := by kernel_rfl
     gi_wp2
     gi_region
     gi_wp2
     all_goals obtain ⟨fn', tm', as', bd', hy, hRnd⟩ := tree_above.yield kq n fn A0 c0 l0 w wr acc i e r hn hr0 hc0 h0 he0 hie (by omega) hA hJ
     ·rw [show e = ((l0.length - i.toNat : Nat) : Int) by rw [he, if_neg (by omega)]; omega] at hy
      rw [hy]
      gi_wp2
      refine ⟨fun _ => by omega, ?_⟩
      refine hRnd.mono ?_
      rintro e W5 ⟨rfl, hI5⟩
      have hnb5 := hI5.nbox.cell
      gi_wp2
      go_roundw
      case rel => exact ⟨kq, acc ++ [r], i + 4, rfl, by omega, by omega, by rw [List.length_append]; simp; omega, hI5, ⟨H⟩⟩
      case measure =>
       simp only [intOf]
       omega
     ·rw [show e = 4 by rw [he, if_pos (by omega)]] at hy
      rw [hy]
      gi_wp2
      refine ⟨fun _ => by omega, ?_⟩
      refine hRnd.mono ?_
      rintro e W5 ⟨rfl, hI5⟩
      have hnb5 := hI5.nbox.cell
      gi_wp2
      go_roundw
      case rel => exact ⟨kq, acc ++ [r], i + 4, rfl, by omega, by omega, by rw [List.length_append]; simp; omega, hI5, ⟨H⟩⟩
      case measure =>
       simp only [intOf]
       omega
    ·rw [if_neg hlen] at H
     exact absurd H (by simp)
   ·rw [if_neg hi] at H
    obtain rfl := Option.some.inj H
    gi_wp2
    refine bodyPost_end (results_none rfl _ _ _) rfl ?_
    exact ⟨⟨_, rfl⟩, hJ⟩
theorem tree_above.chunks (n : Nat) (A0 : Option Addr) (len c0 : Nat) (w : World) : CallsIn Fence.wide n Try.prog 65 #[.slice A0 len c0, .int .i64 4] w fun e w' => e = .returned (.func (.func 76) #[] #[.pointer (some ⟨w.heap.size, 0, none⟩), .pointer (some ⟨w.heap.size + 1, 0, none⟩)]) ∧ w' = (w.alloc (.cells #[.slice A0 len c0] 40)).alloc (.cells #[.int .i64 4] 3) := by
 refine callsIn_of_wp Try.func65 rfl trivial ?_ rfl
 simp only [Try.ntmps65, List.size_toArray, List.length_cons, List.length_nil, Nat.reduceAdd, Nat.reduceSub, Array.replicate_succ, Array.replicate_zero, List.push_toArray, List.append_toArray, List.nil_append, List.cons_append]
 gi_wp2
 go_ret
 exact ⟨rfl, rfl⟩
theorem tree_above.reps_ (w : World) (b : Nat) (ok : Nat → Prop) (l : List Int) : ∀ acc : List Int, Reps ((Kd.int .u32).M w b ok) 1 acc (nums .u32 acc) → Reps ((Kd.int .u32).M w b ok) 1 (acc ++ l) (nums .u32 (acc ++ l)) := by
 induction l with
 | nil => intro acc h; simpa using h
 | cons x l ih =>
  intro acc h
  have h2 := ih (acc ++ [x]) (by have := h.snoc (c := [.int .u32 x]) (p := x) rfl rfl; simpa [nums] using this)
  simpa using h2
theorem tree_above.reps (w : World) (b : Nat) (ok : Nat → Prop) (l : List Int) : Reps ((Kd.int .u32).M w b ok) 1 l (nums .u32 l) := tree_above.reps_ w b ok l [] (Reps.none _ _)
set_option maxHeartbeats 4000000 in
set_option maxRecDepth 100000 in
theorem tree_above.calls (k : Nat) (A0 : Option Addr) (c0 : Nat) (l0 : List Int) (r : List Int) (w : World) (hr0 : Kd.C (Kd.int .u32) w A0 l0.length l0) (hc0 : l0.length ≤ c0) (h : tree_above.f k l0 = some r) :
  Calls Try.prog 47 #[.slice A0 l0.length c0] w fun e w' => ∃ v0_ : Value, e = .returned (v0_) ∧ Kd.R (Kd.int .u32) 25 w' w.heap.size (fun _ => True) v0_ r ∧ Below w.heap.size w w' := by
 refine (callsIn_wide (n := 5)).1 ?_
 refine callsIn_of_wp_marks Try.func47 rfl trivial ?_ rfl
 simp only [Try.ntmps47, List.size_toArray, List.length_cons, List.length_nil, Nat.reduceAdd, Nat.reduceSub, Array.replicate_succ, Array.replicate_zero, List.push_toArray, List.append_toArray, List.nil_append, List.cons_append]
 have hn5 : 1 ≤ 5 := by decide
 gi_wp2_with (refine ⟨trivial, ?_⟩; gi_at_call 65; refine (tree_above.chunks _ A0 l0.length c0 _).mono ?_; rintro e w1 ⟨rfl, rfl⟩)
 obtain ⟨W0, hW0⟩ : ∃ W0, (((w.alloc (Obj.cells #[Value.slice none 0 0] 40)).alloc (Obj.cells #[Value.slice A0 l0.length c0] 40)).alloc (Obj.cells #[Value.int IntKind.i64 4] 3)) = W0 := ⟨_, rfl⟩
 have hsz : W0.heap.size = w.heap.size + 3 := by rw [← hW0]; simp
 have hb0 : Below w.heap.size w W0 := by rw [← hW0]; exact (((Below.refl _ w).alloc (Nat.le_refl _) _).alloc (by simp) _).alloc (by simp; omega) _
 have bL : Boxed W0 w.heap.size 40 (.slice none 0 0) := by rw [← hW0]; exact ((Boxed.new w 40 _).alloc _).alloc _
 have bS : Boxed W0 (w.heap.size + 1) 40 (.slice A0 l0.length c0) := by
  rw [← hW0]
  have := (Boxed.new (w.alloc (Obj.cells #[Value.slice none 0 0] 40)) 40 (.slice A0 l0.length c0)).alloc (Obj.cells #[Value.int IntKind.i64 4] 3)
  rwa [World.size_alloc] at this
 have bN : Boxed W0 (w.heap.size + 2) 3 (.int .i64 4) := by
  rw [← hW0]
  have := Boxed.new ((w.alloc (Obj.cells #[Value.slice none 0 0] 40)).alloc (Obj.cells #[Value.slice A0 l0.length c0] 40)) 3 (.int .i64 4)
  rwa [World.size_alloc, World.size_alloc] at this
 try simp only [World.size_alloc]
 rw [hW0]
 clear hW0
 refine wpIn_rangeFunc ?_
 intro fn hfn
 have hE := run_enterLoop_outer (P := Try.prog) (w := W0) fn (tree_above.tm w A0 l0.length c0) #[7] tree_above.assign tree_above.body
 rw [hsz] at hE
 obtain ⟨W1, hW1⟩ : ∃ W1, (W0.alloc (.deferred (some []))).alloc (.loop (tree_above.rec fn w.heap.size (tree_above.tm w A0 l0.length c0) .ready none tree_above.assign tree_above.body)) = W1 := ⟨_, rfl⟩
 have hI : tree_above.Inv A0 l0.length c0 w (tree_above.rec fn w.heap.size (tree_above.tm w A0 l0.length c0) .ready none tree_above.assign tree_above.body) [] W1 := by
  rw [← hW1]
  refine ⟨?_, ?_, ⟨_, (bL.alloc _).alloc _, World.ownsRow_nil _ _ _ _⟩, (bS.alloc _).alloc _, (bN.alloc _).alloc _, (hb0.alloc (by omega) _).alloc (by simp; omega) _⟩
  ·have := World.alloc_heap_new (W0.alloc (.deferred (some []))) (.loop (tree_above.rec fn w.heap.size (tree_above.tm w A0 l0.length c0) .ready none tree_above.assign tree_above.body))
   rwa [World.size_alloc, hsz] at this
  ·have := World.alloc_heap_new W0 (.deferred (some []))
   rw [hsz] at this
   exact (Below.heap_alloc _ _ _ (by simp; omega)).trans this
 refine ⟨w.heap.size + 4, [{ target := .collected (w.heap.size + 3), args := #[] }], W1, { target := .fn (.func 76) #[.pointer (some ⟨w.heap.size + 1, 0, none⟩), .pointer (some ⟨w.heap.size + 2, 0, none⟩)], args := #[.func (.yield (w.heap.size + 4)) #[] #[]] }, W1, 76, #[.func (.yield (w.heap.size + 4)) #[] #[], .pointer (some ⟨w.heap.size + 1, 0, none⟩), .pointer (some ⟨w.heap.size + 2, 0, none⟩)], W1, ?_, ?_, ?_, ?_, fun _ => by decide, ?_⟩
 ·rw [← hW1]
  exact hE
 ·simp only [resolve]
  simp [go_sem]
 ·intro f' hf'
  trivial
 ·simp [invoke, go_sem, enters_of Try.func76 (by kernel_rfl) rfl]
 ·refine (tree_above.closure k 4 fn A0 c0 l0 w W1 r (by decide) hr0 hc0 hI h).mono ?_
  rintro e W2 ⟨⟨v, rfl⟩, hI2⟩
  refine ⟨none, _, run_endLoop hI2.loop (by simp [tree_above.rec]), ?_⟩
  obtain ⟨hl, hd, ⟨v0, hv, hrow⟩, hat, hbx, hb⟩ := hI2
  obtain ⟨W3, hW3⟩ : ∃ W3, W2.putObj (w.heap.size + 4) (.loop (tree_above.rec fn w.heap.size (tree_above.tm w A0 l0.length c0) .exhausted none tree_above.assign tree_above.body)) = W3 := ⟨_, rfl⟩
  have hd3 : W3.heap[w.heap.size + 3]? = some (.deferred (some [])) := by rw [← hW3]; exact (World.putObj_heap_other (by omega)).trans hd
  have hv3 : Boxed W3 w.heap.size 40 v0 := by rw [← hW3]; exact (World.putObj_heap_other (by omega)).trans hv
  have hrow3 : W3.ownsRow w.heap.size 25 1 v0 r.length (nums .u32 r) := by rw [← hW3]; exact ownsRow_putObj hrow _ hl rfl
  have hb3 : Below w.heap.size w W3 := by rw [← hW3]; exact hb.trans (belowK_b (w := w) (Nat.le_refl _) W2 (w.heap.size + 4) _ _ (by omega) hl rfl rfl)
  have hcv := hv3.cell
  show Exit.inBlock 0 _ Exit.normal { tmps := tree_above.tm w A0 l0.length c0, defers := [{ target := Target.collected (w.heap.size + 3), args := #[] }] } (W2.putObj (w.heap.size + 4) (.loop (tree_above.rec fn w.heap.size (tree_above.tm w A0 l0.length c0) .exhausted none tree_above.assign tree_above.body)))
  rw [hW3]
  unfold tree_above.tm
  clear hW3 hl hd hv hrow hat hbx hb
  gi_wp2
  refine ⟨by simp, .inl ⟨_, _, rfl, run_takeDeferred hd3, ?_⟩⟩
  have hrow5 : (W3.putObj (w.heap.size + 3) (.deferred none)).ownsRow w.heap.size 25 1 v0 r.length (nums .u32 r) := ownsRow_putObj (W := W3) hrow3 _ hd3 rfl
  exact ⟨_, results_tmp rfl _ _ _, v0, rfl, ⟨fun _ _ => trivial, _, hrow5, tree_above.reps _ _ _ _⟩, hb3.trans (belowK_b (w := w) (Nat.le_refl _) W3 (w.heap.size + 3) _ _ (by omega) hd3 rfl rfl)⟩

end Go.Proofs.Ytbmmddngadnofaa.F
