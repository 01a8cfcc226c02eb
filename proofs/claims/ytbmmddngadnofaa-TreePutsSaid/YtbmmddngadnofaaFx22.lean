-- Written by ext (this session's own program).
-- in short rows (short.py)
import Derived.Test.YtbmmddngadnofaaFx0
import Derived.Test.YtbmmddngadnofaaFx6
import Derived.RangeFuncNested
import Derived.RangeFuncBound
import Derived.RangeFuncCalls
import Derived.RangeFuncLeaves
import Derived.RangeFuncBox
import Derived.Shelf.Abstract
import Derived.Shelf.RegionOpen
import Derived.OwnWalkIn
import Derived.TacticsInMore
import Derived.LoopNIn
import Derived.LoopIn
import Derived.Maps.AppendAt
import Derived.Sort.BigQuietIn
namespace Go.Proofs.Ytbmmddngadnofaa.F
open Go.RowKit Go.Proofs.YtbmmddngadnofaaW.PrintWords Go.Proofs.YtbmmddngadnofaaW.PrintLast Go.Proofs.YtbmmddngadnofaaW.PrintMore
attribute [local go_sem] max2_int min2_int max_two min_two max_three min_three max_four min_four   -- for this text's walks alone
set_option linter.unusedVariables false
set_option linter.unusedSimpArgs false

/-! ### tree_Proved: function 17 -/
open Go.Shelf
attribute [local go_sem] Oper.semAt_some
open BigFrame
/-! A region that only reads, inside a round: as outside (nothing in it is a defer statement). -/
def tree_Proved.noDefers (ops : List Oper) : Bool := ops.all fun o => match o.op with | .defer _ => false | _ => true
theorem tree_Proved.noDefers_spec {ops : List Oper} (h : tree_Proved.noDefers ops = true) {i : Nat} {o : Oper} (ho : ops.toArray[i]? = some o) : ∀ c, o.op ≠ .defer c := by
 intro c hc
 have hm : o ∈ ops := by
  have : ops[i]? = some o := by simpa using ho
  exact List.mem_of_getElem? this
 have := List.all_eq_true.1 h o hm
 rw [hc] at this
 exact absurd this (by simp)
theorem tree_Proved.uponIn_round {F : Fence} {n l : Nat} {P : Program} {o : Oper} {a : Act} {next : Act → World → Prop} {Q : Exit → Act → World → Prop} {r : Result Next} (h : o.uponIn F n P a next Q r) : o.uponIn (F.inRound l) n P a next Q r := by
 cases r with
 | ok x w => cases x <;> exact h
 | halt x w => cases x <;> exact h
theorem tree_Proved.wpOpIn_round {F : Fence} {n l : Nat} {P : Program} {ops : List Oper} {Q : Exit → Act → World → Prop} (hro : F.round = none) (hnd : tree_Proved.noDefers ops = true) {i : Nat} {K : Act → World → Prop} {a : Act} {w : World} (h : wpOpIn F n P ops.toArray Q i K a w) : wpOpIn (F.inRound l) n P ops.toArray Q i K a w := by
 unfold wpOpIn at *
 cases ho : ops.toArray[i]? with
 | none => rw [ho] at h; exact h
 | some o =>
  rw [ho] at h
  dsimp only at h ⊢
  by_cases hw : Region.wanted o (yielded ops.toArray a.tmps) = true
  ·rw [if_pos hw] at h ⊢
   refine ⟨h.1, ?_⟩
   have h2 := h.2
   rw [Oper.semAt_plain F _ _ (tree_Proved.noDefers_spec hnd ho)] at h2
   rw [Oper.semAt_plain (F.inRound l) _ _ (tree_Proved.noDefers_spec hnd ho)]
   exact tree_Proved.uponIn_round h2
  ·rw [if_neg hw] at h ⊢
   exact h
theorem tree_Proved.wpAnyIn_round {F : Fence} {n l : Nat} {P : Program} {md : Region.Mode} {ops : List Oper} {Q : Exit → Act → World → Prop} (hro : F.round = none) (hnd : tree_Proved.noDefers ops = true) : ∀ (fuel : Nat) (listed : Array Bool) (a : Act) (w : World), wpAnyIn F n P md ops.toArray Q fuel listed a w → wpAnyIn (F.inRound l) n P md ops.toArray Q fuel listed a w
 | 0, _, _, _, h => h
 | fuel + 1, _, _, _, h => ⟨h.1, fun i hi => tree_Proved.wpOpIn_round hro hnd (wpOpIn_mono (fun a' w' h' => tree_Proved.wpAnyIn_round hro hnd fuel _ a' w' h') (h.2 i hi))⟩
theorem tree_Proved.wpIn_region_quiet_round {F : Fence} {n rl : Nat} {P : Program} {id : Nat} {Q : Exit → Act → World → Prop} {a : Act} {w : World} {l : List Oper} (hro : F.round = none) (hm : P.follows .mixedOrders = true) (hB : Region.lexB .any l.toArray = true) (hnd : tree_Proved.noDefers l = true)
  (h : wpQuietIn F n P l.toArray (fun w' => ∃ n, w' = w.drewN n) (fun a' => ∀ w', (∃ n, w' = w.drewN n) → Q .normal a' w') l a) : (Code.region id l.toArray true).wpIn (F.inRound rl) n P Q a w := by
 simp only [Region.lexB, Bool.and_eq_true] at hB
 refine wpIn_region_any hm (tree_Proved.wpAnyIn_round hro hnd _ _ _ _ (wpAnyIn_of_quiet (C := fun w' => ∃ n, w' = w.drewN n) (Q := fun a' => ∀ w', (∃ n, w' = w.drewN n) → Q .normal a' w') hro (fun _ w' hw' h => h w' hw') _ _ _ _ ⟨1, rfl⟩ ?_))
 have := wpAnyQIn_lex (F := F) (n := n) (C := fun w' => ∃ n, w' = w.drewN n) (md := .any) hB.1 l 0 (Array.replicate l.toArray.size false) a (by simp) (by simpa using hB.2) h
 simpa using this
def tree_Proved.el (xs : List (List Int)) (i : Int) : List Int := xs.getD i.toNat []
theorem tree_Proved.at_ {w : World} {A : Option Addr} {n : Nat} {xs : List (List Int)} (h : Kd.C (Kd.slice 25 (Kd.int .u32)) w A n xs) (i : Int) (h0 : 0 ≤ i) (h1 : i < n) : ∃ ad A0 c0, A = some ad ∧ w.cell? (ad.add i.toNat) = some (.slice A0 (tree_Proved.el xs i).length c0) ∧ (tree_Proved.el xs i).length ≤ c0 ∧ (Kd.int .u32).C w A0 (tree_Proved.el xs i).length (tree_Proved.el xs i) := by
 obtain ⟨ad, c, e, _, hK, hc0⟩ := Kd.C_get h ([] : List Int) i h0 h1
 have hc : ∀ j u, c[j]? = some u → w.cell? (ad.add (i.toNat * 1 + j)) = some u := hc0
 obtain ⟨A0, c0, rfl, l0, g0⟩ := hK
 exact ⟨ad, A0, c0, e, by have hq := hc 0 _ rfl; rwa [Nat.mul_one, Nat.add_zero] at hq, l0, g0⟩
def tree_Proved.l0 : Nat → List (List Int) → Int → Int → Int → Int → Option Int
 | 0, _, _, _, _, _ => none
 | k + 1, rs, n, i, d, root => if 1 < n then
   (if rs.length = 0 then some 251 else
    if ((tree_Proved.el rs 0).length : Int) = (if n - (i - i % 4) < 4 then n - (i - i % 4) else 4) then
     (if rd (tree_Proved.el rs 0) (i % 4) = d then (tree_Row.f k (tree_Proved.el rs 0)).bind fun d' => tree_Proved.l0 k (rs.drop 1) ((n + 3) / 4) (i / 4) d' root else some 251)
    else some 251)
  else (if 0 < rs.length then some 251 else if d = root then some 0 else some 251)
def tree_Proved.f (k : Nat) (root n d i : Int) (rs : List (List Int)) : Option Int := if n < 1 then some 251 else if 4096 < n then some 251 else if i < 0 then some 251 else if n ≤ i then some 251 else tree_Proved.l0 k rs n i d root
theorem tree_Proved.widths (n : Nat) (a i : Int) (w : World) : CallsIn Fence.wide n Try.prog 46 #[.int .i64 a, .int .i64 i] w fun e w' => e = .returned (.func (.func 64) #[] #[.pointer (some ⟨w.heap.size, 0, none⟩), .pointer (some ⟨w.heap.size + 1, 0, none⟩)]) ∧ w' = (w.alloc (.cells #[.int .i64 a] 3)).alloc (.cells #[.int .i64 i] 3) := by
 refine callsIn_of_wp Try.func46 rfl trivial ?_ rfl
 simp only [Try.ntmps46, List.size_toArray, List.length_cons, List.length_nil, Nat.reduceAdd, Nat.reduceSub, Array.replicate_succ, Array.replicate_zero, List.push_toArray, List.append_toArray, List.nil_append, List.cons_append]
 gi_wp2
 go_ret
 exact ⟨rfl, rfl⟩
def tree_Proved.parts (c : Option Code) : Code × Code := match c with
 | some (.seq _ (.seq _ (.seq _ (.seq (.seq _ (.block _ (.rangeFunc _ _ a b))) _)))) => (a, b)
 | _ => (.skip, .skip)
noncomputable def tree_Proved.assign : Code := (tree_Proved.parts Try.f17.body).1
noncomputable def tree_Proved.body : Code := (tree_Proved.parts Try.f17.body).2
def tree_Proved.tm (n0 : Nat) (a0 a1 a2 a3 : Int) (A : Option Addr) (len c : Nat) : Array Value := #[.int .u32 a0, .int .i64 a1, .int .u32 a2, .agg #[.int .i64 a3, .slice A len c], undef, undef, .pointer (some ⟨n0, 0, none⟩), .pointer (some ⟨n0 + 1, 0, none⟩), .pointer (some ⟨n0 + 2, 0, none⟩), .pointer (some ⟨n0 + 3, 0, none⟩), undef, undef, undef, .int .i64 a1, .bool false, .bool false, .int .i64 a1, .bool false, .bool false, .bool false, .pointer (some ⟨n0 + 1, 0, none⟩), .int .i64 a3, .bool false, .bool false, .bool false, .pointer (some ⟨n0 + 1, 0, none⟩), .int .i64 a3, .int .i64 a1, .bool false, .bool false, .pointer (some ⟨n0 + 1, 1, none⟩), .slice A len c, .int .i64 a1, .pointer (some ⟨n0 + 1, 0, none⟩), .int .i64 a3, .func (.func 64) #[] #[.pointer (some ⟨n0 + 4, 0, none⟩), .pointer (some ⟨n0 + 5, 0, none⟩)], undef, undef, undef, undef, undef, undef, undef, undef, undef, undef, undef, undef, undef, undef, undef, undef, undef, undef, undef, undef, undef, undef, undef, undef, undef, undef, undef, undef, undef, undef, undef, undef, undef, undef, undef, undef, undef, undef, undef, undef, undef, undef, undef, undef, undef, undef]
def tree_Proved.rec (fn : FuncId) (n0 : Nat) (tm : Array Value) (st : LoopState) (pe : Option Code) (assign body : Code) : Loop := { state := st, pending := pe, fn := fn, tmps := tm, params := #[36, 37], assign := assign, body := body, defers := n0 + 6 }
structure tree_Proved.Inv (w : World) (rc : Loop) (d e : Int) (rs : List (List Int)) (bl i : Int) (W : World) : Prop where
 loop : W.heap[w.heap.size + 7]? = some (.loop rc)
 defs : W.heap[w.heap.size + 6]? = some (.deferred (some []))
 dbox : Boxed W w.heap.size 25 (.int .u32 d)
 ebox : Boxed W (w.heap.size + 2) 30 (.int .i64 e)
 rbox : ∃ A c, Boxed W (w.heap.size + 3) 22 (.slice A rs.length c) ∧ rs.length ≤ c ∧ Kd.C (Kd.slice 25 (Kd.int .u32)) w A rs.length rs
 bbox : Boxed W (w.heap.size + 4) 3 (.int .i64 bl)
 ibox : Boxed W (w.heap.size + 5) 3 (.int .i64 i)
 below : Below w.heap.size w W
theorem tree_Proved.info_ : (Try.prog.info? 40).map (fun i => (i.zero, i.size, i.bytes)) = some (some (.slice none 0 0), 1, 24) := by kernel_rfl
theorem tree_Proved.stop (fn : FuncId) (tm : Array Value) (asg bd : Code) (w W2 : World) (rs : List (List Int)) (d n i : Int) (nq : Nat) (a : Act) (R : Ending → World → Prop)
  (hl2 : W2.heap[w.heap.size + 7]? = some (.loop (tree_Proved.rec fn w.heap.size tm .busy none asg bd))) (hdf2 : W2.heap[w.heap.size + 6]? = some (Obj.deferred (some []))) (hd2 : Boxed W2 w.heap.size 25 (.int .u32 d))
  (he2 : Boxed W2 (w.heap.size + 2) 30 (.int .i64 0)) (hr2 : ∃ A c, Boxed W2 (w.heap.size + 3) 22 (.slice A rs.length c) ∧ rs.length ≤ c ∧ Kd.C (Kd.slice 25 (Kd.int .u32)) w A rs.length rs) (hbl2 : Boxed W2 (w.heap.size + 4) 3 (.int .i64 n)) (hib2 : Boxed W2 (w.heap.size + 5) 3 (.int .i64 i)) (hb2 : Below w.heap.size w W2)
  (hS : ∀ W', tree_Proved.Inv w (tree_Proved.rec fn w.heap.size tm .done (some .ret) asg bd) d 251 rs n i W' → R (.returned (.bool false)) W') :
  roundPost Try.prog (w.heap.size + 7) R Exit.ret a ((W2.drewN nq).setCell ⟨w.heap.size + 2, 0, none⟩ (.int .i64 251)) := by
 have hb3 : Below w.heap.size w (W2.drewN nq) := ⟨hb2.os, hb2.tape, hb2.output, hb2.size, hb2.block⟩
 have hl3 := (KeepsOthers.setCell (W2.drewN nq) ⟨w.heap.size + 2, 0, none⟩ (.int .i64 251)).same _ _ hl2 rfl
 have hdf3 := (KeepsOthers.setCell (W2.drewN nq) ⟨w.heap.size + 2, 0, none⟩ (.int .i64 251)).same _ _ hdf2 rfl
 have hd3 := (show Boxed (W2.drewN nq) w.heap.size 25 (.int .u32 d) from hd2).other (B' := w.heap.size + 2) (by omega) (.int .i64 251)
 have he3 := (show Boxed (W2.drewN nq) (w.heap.size + 2) 30 (.int .i64 0) from he2).set (.int .i64 251)
 obtain ⟨A, c, hr2, hc, hC⟩ := hr2
 have hr3 := (show Boxed (W2.drewN nq) (w.heap.size + 3) 22 (.slice A rs.length c) from hr2).other (B' := w.heap.size + 2) (by omega) (.int .i64 251)
 have hbl3 := (show Boxed (W2.drewN nq) (w.heap.size + 4) 3 (.int .i64 n) from hbl2).other (B' := w.heap.size + 2) (by omega) (.int .i64 251)
 have hib3 := (show Boxed (W2.drewN nq) (w.heap.size + 5) 3 (.int .i64 i) from hib2).other (B' := w.heap.size + 2) (by omega) (.int .i64 251)
 have hb4 := hb3.setCell (p := ⟨w.heap.size + 2, 0, none⟩) (by simp) (.int .i64 251)
 obtain ⟨W4, hW4⟩ : ∃ W4, (W2.drewN nq).setCell ⟨w.heap.size + 2, 0, none⟩ (.int .i64 251) = W4 := ⟨_, rfl⟩
 rw [hW4] at hl3 hdf3 hd3 he3 hr3 hbl3 hib3 hb4 ⊢
 refine ⟨_, _, run_endRound (some .ret) hl3, hS _ ⟨World.putObj_heap_same (Array.getElem?_eq_some_iff.1 hl3).1, (World.putObj_heap_other (by omega)).trans hdf3, (World.putObj_heap_other (by omega)).trans hd3, (World.putObj_heap_other (by omega)).trans he3, ⟨A, c, (World.putObj_heap_other (by omega)).trans hr3, hc, hC⟩, (World.putObj_heap_other (by omega)).trans hbl3, (World.putObj_heap_other (by omega)).trans hib3, hb4.trans (belowK_b (w := w) (Nat.le_refl _) W4 (w.heap.size + 7) _ _ (by omega) hl3 rfl rfl)⟩⟩
theorem tree_Proved.grown {A B : World} (h : Below A.heap.size A B) : A.grownBy B none := ⟨h.os, h.tape, h.output, h.size, fun k hk _ => h.block k hk⟩
theorem tree_Proved.goon (fn : FuncId) (tm : Array Value) (asg bd : Code) (w W2 w4 : World) (rs : List (List Int)) (d d' n i : Int) (nq : Nat) (A' : Option Addr) (c' ln : Nat) (a : Act) (R : Ending → World → Prop)
  (hl2 : W2.heap[w.heap.size + 7]? = some (.loop (tree_Proved.rec fn w.heap.size tm .busy none asg bd))) (hdf2 : W2.heap[w.heap.size + 6]? = some (Obj.deferred (some []))) (hd2 : Boxed W2 w.heap.size 25 (.int .u32 d))
  (he2 : Boxed W2 (w.heap.size + 2) 30 (.int .i64 0)) (hr2 : ∃ A c, Boxed W2 (w.heap.size + 3) 22 (.slice A rs.length c)) (hbl2 : Boxed W2 (w.heap.size + 4) 3 (.int .i64 n)) (hib2 : Boxed W2 (w.heap.size + 5) 3 (.int .i64 i)) (hb2 : Below w.heap.size w W2)
  (hb3 : Below (W2.drewN nq).heap.size (W2.drewN nq) w4) (hln : ln = (rs.drop 1).length) (hc' : (rs.drop 1).length ≤ c') (hC' : Kd.C (Kd.slice 25 (Kd.int .u32)) w A' (rs.drop 1).length (rs.drop 1))
  (hS : ∀ W', tree_Proved.Inv w (tree_Proved.rec fn w.heap.size tm .ready none asg bd) d' 0 (rs.drop 1) n i W' → R (.returned (.bool true)) W') :
  roundPost Try.prog (w.heap.size + 7) R Exit.normal a ((w4.setCell ⟨w.heap.size, 0, none⟩ (.int .u32 d')).setCell ⟨w.heap.size + 3, 0, none⟩ (.slice A' ln c')) := by
 subst hln
 have hg := tree_Proved.grown hb3
 have hb4 : Below w.heap.size w w4 := Below.trans (⟨hb2.os, hb2.tape, hb2.output, hb2.size, hb2.block⟩ : Below w.heap.size w (W2.drewN nq)) (hb3.mono hb2.size)
 obtain ⟨A, c, hr2⟩ := hr2
 have hl4 := (hb3.block _ (Array.getElem?_eq_some_iff.1 hl2).1).trans hl2
 have hdf4 := (hb3.block _ (Array.getElem?_eq_some_iff.1 hdf2).1).trans hdf2
 have hd4 := (show Boxed (W2.drewN nq) w.heap.size 25 (.int .u32 d) from hd2).kept hg (by simp)
 have he4 := (show Boxed (W2.drewN nq) (w.heap.size + 2) 30 (.int .i64 0) from he2).kept hg (by simp)
 have hr4 := (show Boxed (W2.drewN nq) (w.heap.size + 3) 22 (.slice A rs.length c) from hr2).kept hg (by simp)
 have hbl4 := (show Boxed (W2.drewN nq) (w.heap.size + 4) 3 (.int .i64 n) from hbl2).kept hg (by simp)
 have hib4 := (show Boxed (W2.drewN nq) (w.heap.size + 5) 3 (.int .i64 i) from hib2).kept hg (by simp)
 have hl5 := (KeepsOthers.setCell _ ⟨w.heap.size + 3, 0, none⟩ (.slice A' (rs.drop 1).length c')).same _ _ ((KeepsOthers.setCell w4 ⟨w.heap.size, 0, none⟩ (.int .u32 d')).same _ _ hl4 rfl) rfl
 have hdf5 := (KeepsOthers.setCell _ ⟨w.heap.size + 3, 0, none⟩ (.slice A' (rs.drop 1).length c')).same _ _ ((KeepsOthers.setCell w4 ⟨w.heap.size, 0, none⟩ (.int .u32 d')).same _ _ hdf4 rfl) rfl
 have hd5 := (hd4.set (.int .u32 d')).other (B' := w.heap.size + 3) (by omega) (.slice A' (rs.drop 1).length c')
 have he5 := (he4.other (B' := w.heap.size) (by omega) (.int .u32 d')).other (B' := w.heap.size + 3) (by omega) (.slice A' (rs.drop 1).length c')
 have hr5 := (hr4.other (B' := w.heap.size) (by omega) (.int .u32 d')).set (.slice A' (rs.drop 1).length c')
 have hbl5 := (hbl4.other (B' := w.heap.size) (by omega) (.int .u32 d')).other (B' := w.heap.size + 3) (by omega) (.slice A' (rs.drop 1).length c')
 have hib5 := (hib4.other (B' := w.heap.size) (by omega) (.int .u32 d')).other (B' := w.heap.size + 3) (by omega) (.slice A' (rs.drop 1).length c')
 have hb5 := (hb4.setCell (p := ⟨w.heap.size, 0, none⟩) (Nat.le_refl _) (.int .u32 d')).setCell (p := ⟨w.heap.size + 3, 0, none⟩) (by simp) (.slice A' (rs.drop 1).length c')
 obtain ⟨W4, hW4⟩ : ∃ W4, (w4.setCell ⟨w.heap.size, 0, none⟩ (.int .u32 d')).setCell ⟨w.heap.size + 3, 0, none⟩ (.slice A' (rs.drop 1).length c') = W4 := ⟨_, rfl⟩
 rw [hW4] at hl5 hdf5 hd5 he5 hr5 hbl5 hib5 hb5 ⊢
 refine ⟨_, _, run_endRound none hl5, hS _ ⟨World.putObj_heap_same (Array.getElem?_eq_some_iff.1 hl5).1, (World.putObj_heap_other (by omega)).trans hdf5, (World.putObj_heap_other (by omega)).trans hd5, (World.putObj_heap_other (by omega)).trans he5, ⟨A', c', (World.putObj_heap_other (by omega)).trans hr5, hc', hC'⟩, (World.putObj_heap_other (by omega)).trans hbl5, (World.putObj_heap_other (by omega)).trans hib5, hb5.trans (belowK_b (w := w) (Nat.le_refl _) W4 (w.heap.size + 7) _ _ (by omega) hl5 rfl rfl)⟩⟩
set_option maxHeartbeats 4000000 in
set_option maxRecDepth 100000 in
theorem tree_Proved.round (fn : FuncId) (a0 a1 a2 a3 : Int) (A0 : Option Addr) (len c0 m k : Nat) (w W : World) (rs : List (List Int)) (d n i : Int) (hm : 1 ≤ m) (h0 : 0 ≤ i) (h1 : i < n) (h2 : n ≤ 4096)
  (hI : tree_Proved.Inv w (tree_Proved.rec fn w.heap.size (tree_Proved.tm w.heap.size a0 a1 a2 a3 A0 len c0) .ready none tree_Proved.assign tree_Proved.body) d 0 rs n i W) (R : Ending → World → Prop)
  (hR : ∀ d' W', rs.length ≠ 0 → ((tree_Proved.el rs 0).length : Int) = (if n - (i - i % 4) < 4 then n - (i - i % 4) else 4) → rd (tree_Proved.el rs 0) (i % 4) = d → tree_Row.f k (tree_Proved.el rs 0) = some d' → tree_Proved.Inv w (tree_Proved.rec fn w.heap.size (tree_Proved.tm w.heap.size a0 a1 a2 a3 A0 len c0) .ready none tree_Proved.assign tree_Proved.body) d' 0 (rs.drop 1) n i W' → R (.returned (.bool true)) W')
  (hS : ∀ W', (rs.length = 0 ∨ ((tree_Proved.el rs 0).length : Int) ≠ (if n - (i - i % 4) < 4 then n - (i - i % 4) else 4) ∨ rd (tree_Proved.el rs 0) (i % 4) ≠ d) → tree_Proved.Inv w (tree_Proved.rec fn w.heap.size (tree_Proved.tm w.heap.size a0 a1 a2 a3 A0 len c0) .done (some .ret) tree_Proved.assign tree_Proved.body) d 251 rs n i W' → R (.returned (.bool false)) W')
  (hq : rs.length = 0 ∨ ((tree_Proved.el rs 0).length : Int) ≠ (if n - (i - i % 4) < 4 then n - (i - i % 4) else 4) ∨ rd (tree_Proved.el rs 0) (i % 4) ≠ d ∨ ∃ d', tree_Row.f k (tree_Proved.el rs 0) = some d') :
  YieldAt Fence.wide m Try.prog (w.heap.size + 7) #[.int .i64 n, .int .i64 i] W R := by
 obtain ⟨hloop, hdefs, hd, he, ⟨A, c, hr, hc, hC⟩, hbl, hib, hb⟩ := hI
 refine ⟨fn, _, tree_Proved.assign, tree_Proved.body, run_yield hloop rfl, roundIn_of_wpIn trivial ?_⟩
 unfold tree_Proved.assign tree_Proved.rec tree_Proved.tm tree_Proved.parts Try.f17
 dsimp only
 gi_wp2
 refine ⟨_, run_beginRound hloop rfl, ?_⟩
 obtain ⟨W2, hW2⟩ : ∃ W2, W.putObj (w.heap.size + 7) (.loop (tree_Proved.rec fn w.heap.size (tree_Proved.tm w.heap.size a0 a1 a2 a3 A0 len c0) .busy none tree_Proved.assign tree_Proved.body)) = W2 := ⟨_, rfl⟩
 have hl2 : W2.heap[w.heap.size + 7]? = some (.loop (tree_Proved.rec fn w.heap.size (tree_Proved.tm w.heap.size a0 a1 a2 a3 A0 len c0) .busy none tree_Proved.assign tree_Proved.body)) := by rw [← hW2]; exact World.putObj_heap_same (Array.getElem?_eq_some_iff.1 hloop).1
 have hdf2 : W2.heap[w.heap.size + 6]? = some (Obj.deferred (some [])) := by rw [← hW2]; exact (World.putObj_heap_other (by omega)).trans hdefs
 have hd2 : Boxed W2 w.heap.size 25 (.int .u32 d) := by rw [← hW2]; exact (World.putObj_heap_other (by omega)).trans hd
 have he2 : Boxed W2 (w.heap.size + 2) 30 (.int .i64 0) := by rw [← hW2]; exact (World.putObj_heap_other (by omega)).trans he
 have hr2 : Boxed W2 (w.heap.size + 3) 22 (.slice A rs.length c) := by rw [← hW2]; exact (World.putObj_heap_other (by omega)).trans hr
 have hbl2 : Boxed W2 (w.heap.size + 4) 3 (.int .i64 n) := by rw [← hW2]; exact (World.putObj_heap_other (by omega)).trans hbl
 have hib2 : Boxed W2 (w.heap.size + 5) 3 (.int .i64 i) := by rw [← hW2]; exact (World.putObj_heap_other (by omega)).trans hib
 have hb2 : Below w.heap.size w W2 := by rw [← hW2]; exact hb.trans (belowK_b (w := w) (Nat.le_refl _) W (w.heap.size + 7) _ _ (by omega) hloop rfl rfl)
 change tree_Proved.body.wpIn _ _ _ _ _ (W.putObj (w.heap.size + 7) (.loop (tree_Proved.rec fn w.heap.size (tree_Proved.tm w.heap.size a0 a1 a2 a3 A0 len c0) .busy none tree_Proved.assign tree_Proved.body)))
 rw [hW2]
 clear hW2 hloop hdefs hd he hr hbl hib hb
 have hcd := hd2.cell
 have hce := he2.cell
 have hfe := he2.frozen
 have hcr := hr2.cell
 have htm : Int.tmod i 4 = i % 4 := Int.tmod_eq_emod_of_nonneg h0
 have hsz := hb2.size
 unfold tree_Proved.body tree_Proved.parts Try.f17
 dsimp only
 by_cases q1 : rs.length = 0
 ·have q1b : ((rs.length : Int) == 0) = true := beq_iff_eq.mpr (by omega)
  have Q1 := Aside0.mk q1
  clear q1 hq
  gi_wp2
  (refine tree_Proved.wpIn_region_quiet_round rfl (by kernel_rfl) (by kernel_rfl) (by kernel_rfl) ?_; (repeat (gi_big_quiet_step (fail))); refine wpQuietIn_nil ?_; intro _ hw'; obtain ⟨nq, hw''⟩ := hw'; subst hw'')
  gi_wp2
  exact tree_Proved.stop fn _ _ _ w W2 rs d n i nq _ R hl2 hdf2 hd2 he2 ⟨A, c, hr2, hc, hC⟩ hbl2 hib2 hb2 (fun W' h => hS W' (.inl Q1.out) h)
 ·have q1b : ((rs.length : Int) == 0) = false := beq_eq_false_iff_ne.mpr (by omega)
  obtain ⟨ad, Ar, cr, rfl, hx, hlr, hCr⟩ := tree_Proved.at_ hC 0 (by omega) (by omega)
  rw [show ad.add (Int.toNat 0) = ad by simp [Addr.add]] at hx
  have hx2 := (hb2.cell (World.block_lt_of_cell? w _ hx)).trans hx
  have Hq := Aside0.mk hq
  have q1i : (0 : Int) < (rs.length : Int) := by omega
  clear hq
  by_cases q2 : ((tree_Proved.el rs 0).length : Int) = (if n - (i - i % 4) < 4 then n - (i - i % 4) else 4)
  ·have q2b : (((tree_Proved.el rs 0).length : Int) != (if n - (i - i % 4) < 4 then n - (i - i % 4) else 4)) = false := bne_eq_false_iff_eq.mpr q2
   have q2i : i % 4 < ((tree_Proved.el rs 0).length : Int) := by rw [q2]; split <;> omega
   have Q2 := Aside0.mk q2
   clear q2
   obtain ⟨ar, cs, rfl, hcs, hK, hce2⟩ := Kd.C_get hCr (0 : Int) (i % 4) (by omega) q2i
   obtain rfl := hK
   have hy := hce2 0 _ rfl
   rw [Nat.add_zero, show (i % 4).toNat * (Kd.int .u32).sz = (i % 4).toNat from Nat.mul_one _] at hy
   have hy2 := (hb2.cell (World.block_lt_of_cell? w _ hy)).trans hy
   obtain ⟨x, hxx⟩ : ∃ x, rd (tree_Proved.el rs 0) (i % 4) = x := ⟨_, rfl⟩
   have hy3 : W2.cell? (ar.add (i % 4).toNat) = some (.int .u32 x) := by rw [← hxx]; exact hy2
   have HX := Aside0.mk hxx
   clear hxx hy hy2 hce2
   have hii : i - (i - i % 4) = i % 4 := by omega
   by_cases q3 : x = d
   ·have q3b : (x != d) = false := bne_eq_false_iff_eq.mpr q3
    have Q3 := Aside0.mk q3
    clear q3
    obtain ⟨d', hd'⟩ : ∃ d', tree_Row.f k (tree_Proved.el rs 0) = some d' := by
     rcases Hq.out with h | h | h | h
     ·exact absurd h q1
     ·exact absurd Q2.out h
     ·exact absurd (HX.out.trans Q3.out) h
     ·exact h
    have hCr2 := Kd.C_below hCr hb2
    obtain ⟨i0, hi0, hz0, hz1, hz2⟩ := info_parts tree_Proved.info_
    have hcut := cut_from (P := Try.prog) 22 40 .i64 Try.underlying22 hi0 1 hz1 (some ad) rs.length c 1 (by decide) (by omega)
    obtain ⟨A1, hA1⟩ : ∃ A1, (if c = (1 : Int).toNat then some ad else (some ad).map (·.add ((1 : Int).toNat * 1))) = A1 := ⟨_, rfl⟩
    have hCd := Kd.C_drop (m := 1) (c := c) hC (by omega) hc
    have hCd2 : Kd.C (Kd.slice 25 (Kd.int .u32)) w A1 (rs.drop 1).length (rs.drop 1) := by rw [← hA1]; exact hCd
    obtain ⟨ln, hln⟩ : ∃ ln, rs.length - (1 : Int).toNat = ln := ⟨_, rfl⟩
    obtain ⟨c1, hc1⟩ : ∃ c1, c - (1 : Int).toNat = c1 := ⟨_, rfl⟩
    rw [hA1, hln, hc1] at hcut
    have HL := Aside0.mk hln
    have HC1 := Aside0.mk hc1
    clear hln hc1 hA1 hCd hi0 hz0 hz1 hz2
    gi_wp2
    (refine tree_Proved.wpIn_region_quiet_round rfl (by kernel_rfl) (by kernel_rfl) (by kernel_rfl) ?_; (repeat (gi_big_quiet_step (fail))); refine wpQuietIn_nil ?_; intro _ hw'; obtain ⟨nq, hw''⟩ := hw'; subst hw'')
    gi_wp2_with (refine ⟨trivial, ?_⟩; refine (CallsIn.inRound (w.heap.size + 7) (callsIn_wide.2 (tree_Row.calls k (some ar) cr (tree_Proved.el rs 0) d' (W2.drewN nq) (show Kd.C (Kd.int .u32) (W2.drewN nq) (some ar) (tree_Proved.el rs 0).length (tree_Proved.el rs 0) from hCr2) hlr hd'))).mono ?_; rintro e w4 ⟨rfl, hb4⟩; have hd4 := (show Boxed (W2.drewN nq) w.heap.size 25 (.int .u32 d) from hd2).kept (tree_Proved.grown hb4) (by simp); have hr4 := (show Boxed (W2.drewN nq) (w.heap.size + 3) 22 (.slice (some ad) rs.length c) from hr2).kept (tree_Proved.grown hb4) (by simp); have hcd4 := hd4.cell; have hfd4 := hd4.frozen; have hcr4 := hr4.cell; have hfr4 := hr4.frozen)
    all_goals exact tree_Proved.goon fn _ _ _ w W2 w4 rs d d' n i nq A1 c1 ln _ R hl2 hdf2 hd2 he2 ⟨_, c, hr2⟩ hbl2 hib2 hb2 hb4 (by rw [← HL.out]; simp) (by rw [List.length_drop, ← HC1.out]; simp; omega) hCd2 (fun W' h => hR d' W' q1 Q2.out (HX.out.trans Q3.out) hd' h)
   ·have q3b : (x != d) = true := bne_iff_ne.mpr q3
    gi_wp2
    (refine tree_Proved.wpIn_region_quiet_round rfl (by kernel_rfl) (by kernel_rfl) (by kernel_rfl) ?_; (repeat (gi_big_quiet_step (fail))); refine wpQuietIn_nil ?_; intro _ hw'; obtain ⟨nq, hw''⟩ := hw'; subst hw'')
    gi_wp2
    all_goals exact tree_Proved.stop fn _ _ _ w W2 rs d n i nq _ R hl2 hdf2 hd2 he2 ⟨_, c, hr2, hc, hC⟩ hbl2 hib2 hb2 (fun W' h => hS W' (.inr (.inr (by rw [HX.out]; exact q3))) h)
  ·have q2b : (((tree_Proved.el rs 0).length : Int) != (if n - (i - i % 4) < 4 then n - (i - i % 4) else 4)) = true := bne_iff_ne.mpr q2
   have Q2 := Aside0.mk q2
   clear q2
   gi_wp2
   (refine tree_Proved.wpIn_region_quiet_round rfl (by kernel_rfl) (by kernel_rfl) (by kernel_rfl) ?_; (repeat (gi_big_quiet_step (fail))); refine wpQuietIn_nil ?_; intro _ hw'; obtain ⟨nq, hw''⟩ := hw'; subst hw'')
   gi_wp2
   all_goals exact tree_Proved.stop fn _ _ _ w W2 rs d n i nq _ R hl2 hdf2 hd2 he2 ⟨_, c, hr2, hc, hC⟩ hbl2 hib2 hb2 (fun W' h => hS W' (.inr (.inl Q2.out)) h)
theorem tree_Proved.Inv.step {w W : World} {rc : Loop} {d e : Int} {rs : List (List Int)} {n i n' i' : Int} (h : tree_Proved.Inv w rc d e rs n i W) : tree_Proved.Inv w rc d e rs n' i' (((W.setCell ⟨w.heap.size + 4, 0, none⟩ (.int .i64 n')).setCell ⟨w.heap.size + 5, 0, none⟩ (.int .i64 i')).drew) := by
 obtain ⟨hl, hdf, hd, he, ⟨A, c, hr, hc, hC⟩, hbl, hib, hb⟩ := h
 have hl5 := (KeepsOthers.setCell _ ⟨w.heap.size + 5, 0, none⟩ (.int .i64 i')).same _ _ ((KeepsOthers.setCell W ⟨w.heap.size + 4, 0, none⟩ (.int .i64 n')).same _ _ hl rfl) rfl
 have hdf5 := (KeepsOthers.setCell _ ⟨w.heap.size + 5, 0, none⟩ (.int .i64 i')).same _ _ ((KeepsOthers.setCell W ⟨w.heap.size + 4, 0, none⟩ (.int .i64 n')).same _ _ hdf rfl) rfl
 have hd5 := (hd.other (B' := w.heap.size + 4) (by omega) (.int .i64 n')).other (B' := w.heap.size + 5) (by omega) (.int .i64 i')
 have he5 := (he.other (B' := w.heap.size + 4) (by omega) (.int .i64 n')).other (B' := w.heap.size + 5) (by omega) (.int .i64 i')
 have hr5 := (hr.other (B' := w.heap.size + 4) (by omega) (.int .i64 n')).other (B' := w.heap.size + 5) (by omega) (.int .i64 i')
 have hbl5 := (hbl.set (.int .i64 n')).other (B' := w.heap.size + 5) (by omega) (.int .i64 i')
 have hib5 := (hib.other (B' := w.heap.size + 4) (by omega) (.int .i64 n')).set (.int .i64 i')
 have hb5 := (hb.setCell (p := ⟨w.heap.size + 4, 0, none⟩) (by simp) (.int .i64 n')).setCell (p := ⟨w.heap.size + 5, 0, none⟩) (by simp) (.int .i64 i')
 exact ⟨hl5, hdf5, hd5, he5, ⟨A, c, hr5, hc, hC⟩, hbl5, hib5, hb5.drew⟩
def tree_Proved.last (rs : List (List Int)) (d root : Int) : Option Int := if 0 < rs.length then some 251 else if d = root then some 0 else some 251
set_option maxHeartbeats 4000000 in
set_option maxRecDepth 100000 in
theorem tree_Proved.closure (fn : FuncId) (a0 a1 a2 a3 : Int) (A0 : Option Addr) (len c0 m k : Nat) (w W : World) (rs : List (List Int)) (d n i r : Int) (hm : 2 ≤ m) (h0 : 0 ≤ i) (h1 : i < n) (h2 : n ≤ 4096)
  (hI : tree_Proved.Inv w (tree_Proved.rec fn w.heap.size (tree_Proved.tm w.heap.size a0 a1 a2 a3 A0 len c0) .ready none tree_Proved.assign tree_Proved.body) d 0 rs n i W) (h : tree_Proved.l0 k rs n i d a0 = some r) :
  CallsIn Fence.wide m Try.prog 64 #[.func (.yield (w.heap.size + 7)) #[] #[], .pointer (some ⟨w.heap.size + 4, 0, none⟩), .pointer (some ⟨w.heap.size + 5, 0, none⟩)] W fun e W' => (∃ v, e = .returned v) ∧
   ((∃ rs' d' n' i', tree_Proved.Inv w (tree_Proved.rec fn w.heap.size (tree_Proved.tm w.heap.size a0 a1 a2 a3 A0 len c0) .ready none tree_Proved.assign tree_Proved.body) d' 0 rs' n' i' W' ∧ tree_Proved.last rs' d' a0 = some r) ∨
    (∃ rs' d' n' i', tree_Proved.Inv w (tree_Proved.rec fn w.heap.size (tree_Proved.tm w.heap.size a0 a1 a2 a3 A0 len c0) .done (some .ret) tree_Proved.assign tree_Proved.body) d' 251 rs' n' i' W' ∧ r = 251)) := by
 refine callsIn_of_wp Try.func64 rfl trivial ?_ rfl
 simp only [Try.ntmps64, List.size_toArray, List.length_cons, List.length_nil, Nat.reduceAdd, Nat.reduceSub, Array.replicate_succ, Array.replicate_zero, List.push_toArray, List.append_toArray, List.nil_append, List.cons_append]
 gi_wp2
 gi_loopw [] (fun wr => ∃ (kq : Nat) (rs : List (List Int)) (d n i : Int), 0 ≤ i ∧ i < n ∧ n ≤ 4096 ∧ tree_Proved.Inv w (tree_Proved.rec fn w.heap.size (tree_Proved.tm w.heap.size a0 a1 a2 a3 A0 len c0) .ready none tree_Proved.assign tree_Proved.body) d 0 rs n i wr ∧ Aside0 (tree_Proved.l0 kq rs n i d a0 = some r))
  (fun wr => (intOf ((wr.cell? ⟨w.heap.size + 4, 0, none⟩).getD undef)).toNat)
 case atStart => exact ⟨k, rs, d, n, i, h0, h1, h2, hI, ⟨h⟩⟩
 case round =>
  clear h0 h1 h2 hI h
  obtain ⟨kq, rs, d, n, i, h0, h1, h2, hJ, hL⟩ := hrel
  cases kq with
  | zero => exact absurd hL.out (by simp [tree_Proved.l0])
  | succ kq =>
   have H := hL.out
   rw [tree_Proved.l0] at H
   have hbc := hJ.bbox.cell
   have hic := hJ.ibox.cell
   by_cases hn : 1 < n
   ·rw [if_pos hn] at H
    have hnb : decide (1 < n) = true := decide_eq_true hn
    have hq : rs.length = 0 ∨ ((tree_Proved.el rs 0).length : Int) ≠ (if n - (i - i % 4) < 4 then n - (i - i % 4) else 4) ∨ rd (tree_Proved.el rs 0) (i % 4) ≠ d ∨ ∃ d', tree_Row.f kq (tree_Proved.el rs 0) = some d' := by
     by_cases q1 : rs.length = 0
     ·exact .inl q1
     ·rw [if_neg q1] at H
      by_cases q2 : ((tree_Proved.el rs 0).length : Int) = (if n - (i - i % 4) < 4 then n - (i - i % 4) else 4)
      ·rw [if_pos q2] at H
       by_cases q3 : rd (tree_Proved.el rs 0) (i % 4) = d
       ·rw [if_pos q3] at H
        obtain ⟨d', hd', _⟩ := Option.bind_eq_some_iff.mp H
        exact .inr (.inr (.inr ⟨d', hd'⟩))
       ·exact .inr (.inr (.inl q3))
      ·exact .inr (.inl q2)
    obtain ⟨fn', tm', as', bd', hy, hRnd⟩ := tree_Proved.round fn a0 a1 a2 a3 A0 len c0 (m - 1) kq w wr rs d n i (by omega) h0 h1 h2 hJ
     (fun e W' => (e = .returned (.bool true) ∧ ∃ d', tree_Proved.Inv w (tree_Proved.rec fn w.heap.size (tree_Proved.tm w.heap.size a0 a1 a2 a3 A0 len c0) .ready none tree_Proved.assign tree_Proved.body) d' 0 (rs.drop 1) n i W' ∧ tree_Proved.l0 kq (rs.drop 1) ((n + 3) / 4) (i / 4) d' a0 = some r) ∨ (e = .returned (.bool false) ∧ tree_Proved.Inv w (tree_Proved.rec fn w.heap.size (tree_Proved.tm w.heap.size a0 a1 a2 a3 A0 len c0) .done (some .ret) tree_Proved.assign tree_Proved.body) d 251 rs n i W' ∧ r = 251))
     (fun d' W' q1 q2 q3 q4 hI' => .inl ⟨rfl, d', hI', by rw [if_neg q1, if_pos q2, if_pos q3, q4] at H; exact H⟩)
     (fun W' q hI' => .inr ⟨rfl, hI', by
      by_cases q1 : rs.length = 0
      ·rw [if_pos q1] at H; exact (Option.some.inj H).symm
      ·rw [if_neg q1] at H
       by_cases q2 : ((tree_Proved.el rs 0).length : Int) = (if n - (i - i % 4) < 4 then n - (i - i % 4) else 4)
       ·rw [if_pos q2] at H
        have q3 : ¬ rd (tree_Proved.el rs 0) (i % 4) = d := by
         rcases q with q | q | q
         ·exact absurd q q1
         ·exact absurd q2 q
         ·exact q
        rw [if_neg q3] at H; exact (Option.some.inj H).symm
       ·rw [if_neg q2] at H; exact (Option.some.inj H).symm⟩) hq
    clear H hq
    gi_wp2
    refine ⟨fun _ => by omega, ?_⟩
    refine hRnd.mono ?_
    rintro e W5 (⟨rfl, d', hI5, H'⟩ | ⟨rfl, hI5, hr⟩)
    ·have hbc5 := hI5.bbox.cell
     have hbf5 := hI5.bbox.frozen
     have hic5 := hI5.ibox.cell
     have hif5 := hI5.ibox.frozen
     have hmix : Try.prog.follows .mixedOrders = true := by kernel_rfl
     have ht1 : Int.tdiv i 4 = i / 4 := Int.tdiv_eq_ediv_of_nonneg h0
     have ht2 : Int.tdiv (n + 3) 4 = (n + 3) / 4 := Int.tdiv_eq_ediv_of_nonneg (by omega)
     gi_wp2
     gi_region
     gi_wp2
     have e4 : (n + 4 - 1) / 4 = (n + 3) / 4 := by omega
     rw [e4]
     have hL6 := tree_Proved.Inv.step (n' := (n + 3) / 4) (i' := i / 4) hI5
     obtain ⟨W6, hW6⟩ : ∃ W6, (((W5.setCell { block := w.heap.size + 4, off := 0 } (Value.int IntKind.i64 ((n + 3) / 4))).setCell { block := w.heap.size + 5, off := 0 } (Value.int IntKind.i64 (i / 4))).drew) = W6 := ⟨_, rfl⟩
     rw [hW6] at hL6 ⊢
     go_roundw
     case rel => exact ⟨kq, rs.drop 1, d', (n + 3) / 4, i / 4, by omega, by omega, by omega, hL6, ⟨H'⟩⟩
     case measure =>
      rw [hL6.bbox.cell, hbc]
      simp only [Option.getD_some, intOf]
      omega
    ·gi_wp2
     refine bodyPost_end (results_none rfl _ _ _) rfl ?_
     exact ⟨⟨_, rfl⟩, .inr ⟨_, _, _, _, hI5, hr⟩⟩
   ·rw [if_neg hn] at H
    have hnb : decide (1 < n) = false := decide_eq_false hn
    gi_wp2
    refine ⟨fun _ h => (by cases h), ?_⟩
    gi_wp2
    refine bodyPost_end (results_none rfl _ _ _) rfl ?_
    exact ⟨⟨_, rfl⟩, .inl ⟨_, _, _, _, hJ, H⟩⟩
theorem tree_Proved.result {fn : Func} {p : Tmp} (h : fn.results = #[.cell p 30]) (tmps : Array Value) (w : World) (g : Nat) (v : Value) (hp : tmps.getD p undef = .pointer (some ⟨g, 0, none⟩)) (hc : Boxed w g 30 v) : (results fn tmps).run Try.prog w = .ok v w := by
 have hp' : tmps[p]?.getD undef = .pointer (some ⟨g, 0, none⟩) := by simpa using hp
 have hu := Try.underlying30
 have hcc := hc.cell
 simp [results, h, hp', asAddr, loadVar, go_sem, hu, hcc]
theorem tree_Proved.leave {w W3 : World} {fn : FuncId} {tm : Array Value} {st : LoopState} {pe : Option Code} {asg bd : Code} {d e : Int} {rs : List (List Int)} {n i : Int} {a : Act}
  (hI : tree_Proved.Inv w (tree_Proved.rec fn w.heap.size tm st pe asg bd) d e rs n i W3) (hp : a.tmps.getD 8 undef = .pointer (some ⟨w.heap.size + 2, 0, none⟩)) (hd : a.defers = [{ target := .collected (w.heap.size + 6), args := #[] }]) :
  bodyPostM Fence.wide 5 Try.prog Try.f17 (fun e' w' => e' = .returned (.int .i64 e) ∧ Below w.heap.size w w') Exit.ret a W3 := by
 show LeavesInM _ _ _ _ _ _ a.defers _ _
 rw [hd]
 refine ⟨by simp, .inl ⟨_, _, rfl, run_takeDeferred hI.defs, ?_⟩⟩
 refine ⟨_, tree_Proved.result rfl a.tmps _ (w.heap.size + 2) (.int .i64 e) hp ((World.putObj_heap_other (by omega)).trans hI.ebox), rfl, hI.below.trans (belowK_b (w := w) (Nat.le_refl _) W3 (w.heap.size + 6) _ _ (by omega) hI.defs rfl rfl)⟩
theorem tree_Proved.Inv.put {w W : World} {fn : FuncId} {tm : Array Value} {st st' : LoopState} {pe pe' : Option Code} {asg bd : Code} {d e : Int} {rs : List (List Int)} {n i : Int}
  (h : tree_Proved.Inv w (tree_Proved.rec fn w.heap.size tm st pe asg bd) d e rs n i W) : tree_Proved.Inv w (tree_Proved.rec fn w.heap.size tm st' pe' asg bd) d e rs n i (W.putObj (w.heap.size + 7) (.loop (tree_Proved.rec fn w.heap.size tm st' pe' asg bd))) := by
 obtain ⟨hl, hdf, hd, he, ⟨A, c, hr, hc, hC⟩, hbl, hib, hb⟩ := h
 exact ⟨World.putObj_heap_same (Array.getElem?_eq_some_iff.1 hl).1, (World.putObj_heap_other (by omega)).trans hdf, (World.putObj_heap_other (by omega)).trans hd, (World.putObj_heap_other (by omega)).trans he, ⟨A, c, (World.putObj_heap_other (by omega)).trans hr, hc, hC⟩, (World.putObj_heap_other (by omega)).trans hbl, (World.putObj_heap_other (by omega)).trans hib, hb.trans (belowK_b (w := w) (Nat.le_refl _) W (w.heap.size + 7) _ _ (by omega) hl rfl rfl)⟩
theorem tree_Proved.Inv.err {w W : World} {rc : Loop} {d e e' : Int} {rs : List (List Int)} {n i : Int} (h : tree_Proved.Inv w rc d e rs n i W) : tree_Proved.Inv w rc d e' rs n i (W.setCell ⟨w.heap.size + 2, 0, none⟩ (.int .i64 e')) := by
 obtain ⟨hl, hdf, hd, he, ⟨A, c, hr, hc, hC⟩, hbl, hib, hb⟩ := h
 exact ⟨(KeepsOthers.setCell W ⟨w.heap.size + 2, 0, none⟩ (.int .i64 e')).same _ _ hl rfl, (KeepsOthers.setCell W ⟨w.heap.size + 2, 0, none⟩ (.int .i64 e')).same _ _ hdf rfl, hd.other (by omega) _, he.set _, ⟨A, c, hr.other (by omega) _, hc, hC⟩, hbl.other (by omega) _, hib.other (by omega) _, hb.setCell (p := ⟨w.heap.size + 2, 0, none⟩) (by simp) _⟩
theorem tree_Proved.mono_l : ∀ k, (∀ y0 y1 y2 y3 y4, LeO (tree_Proved.l0 k y0 y1 y2 y3 y4) (tree_Proved.l0 (k + 1) y0 y1 y2 y3 y4))
 | 0 => fun _ _ _ _ _ r h => by simp [tree_Proved.l0] at h
 | k + 1 => by
  have ih0 := tree_Proved.mono_l k
  intro y0 y1 y2 y3 y4
  unfold tree_Proved.l0
  repeat' first
   | (with_reducible exact ih0 _ _ _ _ _)
   | (with_reducible exact tree_Row.mono _ _)
   | (with_reducible exact LeO.refl _)
   | (with_reducible exact LeO.none _)
   | (with_reducible refine LeO.ite ?_ ?_)
   | (with_reducible refine LeO.bind ?_ (fun _ => ?_))
theorem tree_Proved.mono : ∀ a0 a1 a2 a3 a4 k, LeO (tree_Proved.f k a0 a1 a2 a3 a4) (tree_Proved.f (k + 1) a0 a1 a2 a3 a4) := by
 intro a0 a1 a2 a3 a4 k
 have ih0 := tree_Proved.mono_l k
 unfold tree_Proved.f
 repeat' first
  | (with_reducible exact ih0 _ _ _ _ _)
  | (with_reducible exact LeO.refl _)
  | (with_reducible exact LeO.none _)
  | (with_reducible refine LeO.ite ?_ ?_)
  | (with_reducible refine LeO.bind ?_ (fun _ => ?_))
set_option maxHeartbeats 4000000 in
set_option maxRecDepth 100000 in
theorem tree_Proved.calls (k : Nat) (a0 : Int) (a1 : Int) (a2 : Int) (a3_0 : Int) (A3_1 : Option Addr) (c3_1 : Nat) (l3_1 : List (List Int)) (r : Int) (w : World) (hr3_1 : Kd.C (Kd.slice 25 (Kd.int .u32)) w A3_1 l3_1.length l3_1) (hc3_1 : l3_1.length ≤ c3_1) (h : tree_Proved.f k a0 a1 a2 a3_0 l3_1 = some r) :
  Calls Try.prog 17 #[.int .u32 a0, .int .i64 a1, .int .u32 a2, .agg #[.int .i64 a3_0, .slice A3_1 l3_1.length c3_1]] w fun e w' => e = .returned (.int .i64 r) ∧ Below w.heap.size w w' := by
 have hu27 := Try.underlying27
 have hu30 := Try.underlying30
 unfold tree_Proved.f at h
 have hbA : ∀ e : Int, Below w.heap.size w (((w.alloc (Obj.cells #[.int .u32 a2] 25)).alloc (Obj.cells #[.int .i64 a3_0, .slice A3_1 l3_1.length c3_1] 27)).alloc (Obj.cells #[.int .i64 e] 30)) := fun e => (((Below.refl _ w).alloc (Nat.le_refl _) _).alloc (by simp) _).alloc (by simp; omega) _
 by_cases c1 : a1 < 1
 ·rw [if_pos c1] at h
  obtain rfl := Option.some.inj h
  have c1b : decide (a1 < 1) = true := decide_eq_true c1
  go_enter Try.func17, Try.ntmps17
  go_wp2
  exact bodyPost_ret (tree_Proved.result rfl _ _ (w.heap.size + 1 + 1) (.int .i64 251) rfl (by have := Boxed.new ((w.alloc (Obj.cells #[Value.int IntKind.u32 a2] 25)).alloc (Obj.cells #[Value.int IntKind.i64 a3_0, Value.slice A3_1 l3_1.length c3_1] 27)) 30 (.int .i64 251); rwa [World.size_alloc, World.size_alloc] at this)) rfl ⟨rfl, hbA _⟩
 ·rw [if_neg c1] at h
  have c1b : decide (a1 < 1) = false := decide_eq_false c1
  by_cases c2 : 4096 < a1
  ·rw [if_pos c2] at h
   obtain rfl := Option.some.inj h
   have c2b : decide (4096 < a1) = true := decide_eq_true c2
   go_enter Try.func17, Try.ntmps17
   go_wp2
   exact bodyPost_ret (tree_Proved.result rfl _ _ (w.heap.size + 1 + 1) (.int .i64 251) rfl (by have := Boxed.new ((w.alloc (Obj.cells #[Value.int IntKind.u32 a2] 25)).alloc (Obj.cells #[Value.int IntKind.i64 a3_0, Value.slice A3_1 l3_1.length c3_1] 27)) 30 (.int .i64 251); rwa [World.size_alloc, World.size_alloc] at this)) rfl ⟨rfl, hbA _⟩
  ·rw [if_neg c2] at h
   have c2b : decide (4096 < a1) = false := decide_eq_false c2
   by_cases c3 : a3_0 < 0
   ·rw [if_pos c3] at h
    obtain rfl := Option.some.inj h
    have c3b : decide (a3_0 < 0) = true := decide_eq_true c3
    go_enter Try.func17, Try.ntmps17
    go_wp2
    exact bodyPost_ret (tree_Proved.result rfl _ _ (w.heap.size + 1 + 1) (.int .i64 251) rfl (by have := Boxed.new ((w.alloc (Obj.cells #[Value.int IntKind.u32 a2] 25)).alloc (Obj.cells #[Value.int IntKind.i64 a3_0, Value.slice A3_1 l3_1.length c3_1] 27)) 30 (.int .i64 251); rwa [World.size_alloc, World.size_alloc] at this)) rfl ⟨rfl, hbA _⟩
   ·rw [if_neg c3] at h
    have c3b : decide (a3_0 < 0) = false := decide_eq_false c3
    by_cases c4 : a1 ≤ a3_0
    ·rw [if_pos c4] at h
     obtain rfl := Option.some.inj h
     have c4b : decide (a1 ≤ a3_0) = true := decide_eq_true c4
     go_enter Try.func17, Try.ntmps17
     go_wp2
     exact bodyPost_ret (tree_Proved.result rfl _ _ (w.heap.size + 1 + 1) (.int .i64 251) rfl (by have := Boxed.new ((w.alloc (Obj.cells #[Value.int IntKind.u32 a2] 25)).alloc (Obj.cells #[Value.int IntKind.i64 a3_0, Value.slice A3_1 l3_1.length c3_1] 27)) 30 (.int .i64 251); rwa [World.size_alloc, World.size_alloc] at this)) rfl ⟨rfl, hbA _⟩
    ·rw [if_neg c4] at h
     have c4b : decide (a1 ≤ a3_0) = false := decide_eq_false c4
     refine (callsIn_wide (n := 5)).1 ?_
     refine callsIn_of_wp_marks Try.func17 rfl trivial ?_ rfl
     simp only [Try.ntmps17, List.size_toArray, List.length_cons, List.length_nil, Nat.reduceAdd, Nat.reduceSub, Array.replicate_succ, Array.replicate_zero, List.push_toArray, List.append_toArray, List.nil_append, List.cons_append]
     have hn5 : 1 ≤ 5 := by decide
     gi_wp2_with (refine ⟨trivial, ?_⟩; gi_at_call 46; refine (tree_Proved.widths _ a1 a3_0 _).mono ?_; rintro e w1 ⟨rfl, rfl⟩)
     simp only [World.size_alloc, Nat.add_assoc, Nat.reduceAdd]
     obtain ⟨W0, hW0⟩ : ∃ W0, ((((((w.alloc (Obj.cells #[Value.int IntKind.u32 a2] 25)).alloc (Obj.cells #[Value.int IntKind.i64 a3_0, Value.slice A3_1 l3_1.length c3_1] 27)).alloc (Obj.cells #[Value.int IntKind.i64 0] 30)).alloc (Obj.cells #[Value.slice A3_1 l3_1.length c3_1] 22)).alloc (Obj.cells #[Value.int IntKind.i64 a1] 3)).alloc (Obj.cells #[Value.int IntKind.i64 a3_0] 3)) = W0 := ⟨_, rfl⟩
     have hsz : W0.heap.size = w.heap.size + 6 := by rw [← hW0]; simp
     have hb0 : Below w.heap.size w W0 := by rw [← hW0]; exact (((hbA 0).alloc (by simp; omega) _).alloc (by simp; omega) _).alloc (by simp; omega) _
     have bD : Boxed W0 w.heap.size 25 (.int .u32 a2) := by rw [← hW0]; exact (((((Boxed.new w 25 _).alloc _).alloc _).alloc _).alloc _).alloc _
     have bE : Boxed W0 (w.heap.size + 2) 30 (.int .i64 0) := by
      rw [← hW0]
      have := (((Boxed.new ((w.alloc (Obj.cells #[Value.int IntKind.u32 a2] 25)).alloc (Obj.cells #[Value.int IntKind.i64 a3_0, Value.slice A3_1 l3_1.length c3_1] 27)) 30 (.int .i64 0)).alloc (Obj.cells #[Value.slice A3_1 l3_1.length c3_1] 22)).alloc (Obj.cells #[Value.int IntKind.i64 a1] 3)).alloc (Obj.cells #[Value.int IntKind.i64 a3_0] 3)
      rwa [World.size_alloc, World.size_alloc] at this
     have bR : Boxed W0 (w.heap.size + 3) 22 (.slice A3_1 l3_1.length c3_1) := by
      rw [← hW0]
      have := ((Boxed.new (((w.alloc (Obj.cells #[Value.int IntKind.u32 a2] 25)).alloc (Obj.cells #[Value.int IntKind.i64 a3_0, Value.slice A3_1 l3_1.length c3_1] 27)).alloc (Obj.cells #[Value.int IntKind.i64 0] 30)) 22 (.slice A3_1 l3_1.length c3_1)).alloc (Obj.cells #[Value.int IntKind.i64 a1] 3)).alloc (Obj.cells #[Value.int IntKind.i64 a3_0] 3)
      rwa [World.size_alloc, World.size_alloc, World.size_alloc] at this
     have bB : Boxed W0 (w.heap.size + 4) 3 (.int .i64 a1) := by
      rw [← hW0]
      have := (Boxed.new ((((w.alloc (Obj.cells #[Value.int IntKind.u32 a2] 25)).alloc (Obj.cells #[Value.int IntKind.i64 a3_0, Value.slice A3_1 l3_1.length c3_1] 27)).alloc (Obj.cells #[Value.int IntKind.i64 0] 30)).alloc (Obj.cells #[Value.slice A3_1 l3_1.length c3_1] 22)) 3 (.int .i64 a1)).alloc (Obj.cells #[Value.int IntKind.i64 a3_0] 3)
      rwa [World.size_alloc, World.size_alloc, World.size_alloc, World.size_alloc] at this
     have bI : Boxed W0 (w.heap.size + 5) 3 (.int .i64 a3_0) := by
      rw [← hW0]
      have := Boxed.new (((((w.alloc (Obj.cells #[Value.int IntKind.u32 a2] 25)).alloc (Obj.cells #[Value.int IntKind.i64 a3_0, Value.slice A3_1 l3_1.length c3_1] 27)).alloc (Obj.cells #[Value.int IntKind.i64 0] 30)).alloc (Obj.cells #[Value.slice A3_1 l3_1.length c3_1] 22)).alloc (Obj.cells #[Value.int IntKind.i64 a1] 3)) 3 (.int .i64 a3_0)
      rwa [World.size_alloc, World.size_alloc, World.size_alloc, World.size_alloc, World.size_alloc] at this
     rw [hW0]
     clear hW0
     refine wpIn_rangeFunc ?_
     intro fn hfn
     have hE := run_enterLoop_outer (P := Try.prog) (w := W0) fn (tree_Proved.tm w.heap.size a0 a1 a2 a3_0 A3_1 l3_1.length c3_1) #[36, 37] tree_Proved.assign tree_Proved.body
     rw [hsz] at hE
     obtain ⟨W1, hW1⟩ : ∃ W1, (W0.alloc (.deferred (some []))).alloc (.loop (tree_Proved.rec fn w.heap.size (tree_Proved.tm w.heap.size a0 a1 a2 a3_0 A3_1 l3_1.length c3_1) .ready none tree_Proved.assign tree_Proved.body)) = W1 := ⟨_, rfl⟩
     have hI : tree_Proved.Inv w (tree_Proved.rec fn w.heap.size (tree_Proved.tm w.heap.size a0 a1 a2 a3_0 A3_1 l3_1.length c3_1) .ready none tree_Proved.assign tree_Proved.body) a2 0 l3_1 a1 a3_0 W1 := by
      rw [← hW1]
      refine ⟨?_, ?_, (bD.alloc _).alloc _, (bE.alloc _).alloc _, ⟨A3_1, c3_1, (bR.alloc _).alloc _, hc3_1, hr3_1⟩, (bB.alloc _).alloc _, (bI.alloc _).alloc _, (hb0.alloc (by omega) _).alloc (by simp; omega) _⟩
      ·have := World.alloc_heap_new (W0.alloc (.deferred (some []))) (.loop (tree_Proved.rec fn w.heap.size (tree_Proved.tm w.heap.size a0 a1 a2 a3_0 A3_1 l3_1.length c3_1) .ready none tree_Proved.assign tree_Proved.body))
       rwa [World.size_alloc, hsz] at this
      ·have := World.alloc_heap_new W0 (.deferred (some []))
       rw [hsz] at this
       exact (Below.heap_alloc _ _ _ (by simp; omega)).trans this
     refine ⟨w.heap.size + 7, [{ target := .collected (w.heap.size + 6), args := #[] }], W1, { target := .fn (.func 64) #[.pointer (some ⟨w.heap.size + 4, 0, none⟩), .pointer (some ⟨w.heap.size + 5, 0, none⟩)], args := #[.func (.yield (w.heap.size + 7)) #[] #[]] }, W1, 64, #[.func (.yield (w.heap.size + 7)) #[] #[], .pointer (some ⟨w.heap.size + 4, 0, none⟩), .pointer (some ⟨w.heap.size + 5, 0, none⟩)], W1, ?_, ?_, ?_, ?_, fun _ => by decide, ?_⟩
     ·rw [← hW1]
      exact hE
     ·simp only [resolve]
      simp [go_sem]
     ·intro f' hf'
      trivial
     ·simp [invoke, go_sem, enters_of Try.func64 (by kernel_rfl) rfl]
     ·refine (tree_Proved.closure fn a0 a1 a2 a3_0 A3_1 l3_1.length c3_1 4 k w W1 l3_1 a2 a1 a3_0 r (by decide) (by omega) (by omega) (by omega) hI h).mono ?_
      rintro e W2 ⟨⟨v, rfl⟩, hcase⟩
      rcases hcase with ⟨rs', d', n', i', hI2, hlast⟩ | ⟨rs', d', n', i', hI2, rfl⟩
      ·refine ⟨none, _, run_endLoop hI2.loop (by simp [tree_Proved.rec]), ?_⟩
       have hI3 := hI2.put (st' := .exhausted) (pe' := none)
       obtain ⟨W3, hW3⟩ : ∃ W3, W2.putObj (w.heap.size + 7) (.loop (tree_Proved.rec fn w.heap.size (tree_Proved.tm w.heap.size a0 a1 a2 a3_0 A3_1 l3_1.length c3_1) .exhausted none tree_Proved.assign tree_Proved.body)) = W3 := ⟨_, rfl⟩
       show Exit.inBlock 0 _ Exit.normal { tmps := tree_Proved.tm w.heap.size a0 a1 a2 a3_0 A3_1 l3_1.length c3_1, defers := [{ target := Target.collected (w.heap.size + 6), args := #[] }] } (W2.putObj (w.heap.size + 7) (.loop (tree_Proved.rec fn w.heap.size (tree_Proved.tm w.heap.size a0 a1 a2 a3_0 A3_1 l3_1.length c3_1) .exhausted none tree_Proved.assign tree_Proved.body)))
       rw [hW3] at hI3 ⊢
       unfold tree_Proved.tm
       clear hW3 hI2
       obtain ⟨Az, cz, hrz, _, _⟩ := hI3.rbox
       have hrc := hrz.cell
       have hdc := hI3.dbox.cell
       have hec := hI3.ebox.cell
       have hef := hI3.ebox.frozen
       unfold tree_Proved.last at hlast
       by_cases z1 : 0 < rs'.length
       ·rw [if_pos z1] at hlast
        obtain rfl := Option.some.inj hlast
        have z1b : decide (0 < (rs'.length : Int)) = true := decide_eq_true (by omega)
        have z1c : decide (0 < rs'.length) = true := decide_eq_true z1
        have z1d : (rs'.length == 0) = false := beq_eq_false_iff_ne.mpr (by omega)
        have z1e : ¬ rs'.length = 0 := by omega
        gi_wp2
        all_goals first | exact tree_Proved.leave hI3.err rfl rfl | (exfalso; simp_all; done) | (exfalso; omega)
       ·rw [if_neg z1] at hlast
        have z1b : decide (0 < (rs'.length : Int)) = false := decide_eq_false (by omega)
        have z1c : decide (0 < rs'.length) = false := decide_eq_false z1
        have z1d : (rs'.length == 0) = true := beq_iff_eq.mpr (by omega)
        have Z1 := Aside0.mk z1
        clear z1
        by_cases z2 : d' = a0
        ·rw [if_pos z2] at hlast
         obtain rfl := Option.some.inj hlast
         have z2b : (d' != a0) = false := bne_eq_false_iff_eq.mpr z2
         have Z2 := Aside0.mk z2
         clear z2
         gi_wp2
         all_goals first | exact tree_Proved.leave hI3.err rfl rfl | (exfalso; have := Z1.out; have := Z2.out; omega) | (exfalso; have := Z1.out; have := Z2.out; simp_all; done)
        ·rw [if_neg z2] at hlast
         obtain rfl := Option.some.inj hlast
         have z2b : (d' != a0) = true := bne_iff_ne.mpr z2
         have Z2 := Aside0.mk z2
         clear z2
         gi_wp2
         all_goals first | exact tree_Proved.leave hI3.err rfl rfl | (exfalso; have := Z1.out; have := Z2.out; omega) | (exfalso; have := Z1.out; have := Z2.out; simp_all; done)
      ·refine ⟨some .ret, _, run_endLoop hI2.loop (by simp [tree_Proved.rec]), ?_⟩
       have hI3 := hI2.put (st' := .exhausted) (pe' := some .ret)
       obtain ⟨W3, hW3⟩ : ∃ W3, W2.putObj (w.heap.size + 7) (.loop (tree_Proved.rec fn w.heap.size (tree_Proved.tm w.heap.size a0 a1 a2 a3_0 A3_1 l3_1.length c3_1) .exhausted (some .ret) tree_Proved.assign tree_Proved.body)) = W3 := ⟨_, rfl⟩
       show Code.wpIn _ _ _ Code.ret _ { tmps := tree_Proved.tm w.heap.size a0 a1 a2 a3_0 A3_1 l3_1.length c3_1, defers := [{ target := Target.collected (w.heap.size + 6), args := #[] }] } (W2.putObj (w.heap.size + 7) (.loop (tree_Proved.rec fn w.heap.size (tree_Proved.tm w.heap.size a0 a1 a2 a3_0 A3_1 l3_1.length c3_1) .exhausted (some .ret) tree_Proved.assign tree_Proved.body)))
       rw [hW3] at hI3 ⊢
       unfold tree_Proved.tm
       clear hW3 hI2
       gi_wp2
       exact tree_Proved.leave hI3 rfl rfl

end Go.Proofs.Ytbmmddngadnofaa.F
