-- Written by ext (this session's own program).
-- in short rows (short.py)
import Derived.Test.YtbmmddngadnofaaFx0
import Derived.Test.YtbmmddngadnofaaFx8
import Derived.Test.YtbmmddngadnofaaFx26
import Derived.Test.YtbmmddngadnofaaFx43
import Derived.Test.YtbmmddngadnofaaFx47
import Derived.RangeFuncNested
import Derived.RangeFuncBox
import Derived.Shelf.Abstract
import Derived.OwnWalkIn
import Derived.TacticsInMore
import Derived.LoopNIn
import Derived.LoopIn
import Derived.Maps.AppendAt
import Derived.Deep.QuietTactic
import Derived.BigQuiet
import Derived.Laws.Cover3
import Derived.Laws.CopyRow
import Derived.Maps.Own
import Derived.Maps.OwnSet
import Derived.Laws.OwnMore
namespace Go.Proofs.Ytbmmddngadnofaa.F
open Go.RowKit Go.Proofs.YtbmmddngadnofaaW.PrintWords Go.Proofs.YtbmmddngadnofaaW.PrintLast Go.Proofs.YtbmmddngadnofaaW.PrintMore
attribute [local go_sem] max2_int min2_int max_two min_two max_three min_three max_four min_four   -- for this text's walks alone
set_option linter.unusedVariables false
set_option linter.unusedSimpArgs false

/-! ### tree_Of: function 39 -/
open Go.Shelf
open Go.Maps
/-- A row of whole numbers, as a block of its own. -/
def IRow (q : IntKind) (t : TypeId) (w : World) (g : Nat) (l : List Int) : Prop := w.heap[g]? = some (.cells (l.map (Value.int q)).toArray t (0, 0))
theorem IRow.blk {q : IntKind} {t : TypeId} {w : World} {g : Nat} {l : List Int} (h : IRow q t w g l) : w.heap[g]? = some (.cells (l.map (Value.int q)).toArray t (0, 0)) := h
theorem IRow.C {q : IntKind} {t : TypeId} {w : World} {g : Nat} {l : List Int} (h : IRow q t w g l) (hl : l.length ≤ 2 ^ 48) : (Kd.int q).C w (some ⟨g, 0, none⟩) l.length l := by
 refine Kd.C_of_reads (enc := Value.int q) (d := 0) ⟨rfl, by omega, fun _ => ⟨_, rfl, fun j hj => ?_⟩⟩
 have e : ((⟨g, 0, none⟩ : Addr).add j) = ⟨g, j, none⟩ := by
  simp [Addr.add]
  exact fun h => h.symm
 rw [e, blk_cell h j, List.getElem?_toArray, List.getElem?_map, List.getD_eq_getElem?_getD, List.getElem?_eq_getElem hj]
 rfl
theorem IRow.set {q : IntKind} {t : TypeId} {w : World} {g : Nat} {l : List Int} (h : IRow q t w g l) (i : Nat) (d : Int) : IRow q t (w.setCell ⟨g, i, none⟩ (.int q d)) g (l.set i d) := by
 have := blk_set h i (.int q d)
 rw [List.setIfInBounds_toArray, ← List.map_set] at this
 exact this
theorem IRow.cell {q : IntKind} {t : TypeId} {w : World} {g : Nat} {l : List Int} (h : IRow q t w g l) (i : Nat) (hi : i < l.length) : w.cell? ⟨g, i, none⟩ = some (.int q (l.getD i 0)) := by
 rw [blk_cell h i, List.getElem?_toArray, List.getElem?_map, List.getD_eq_getElem?_getD, List.getElem?_eq_getElem hi]
 rfl
theorem IRow.frozen {q : IntKind} {t : TypeId} {w : World} {g : Nat} {l : List Int} (h : IRow q t w g l) (i : Nat) : w.frozen? ⟨g, i, none⟩ = false := blk_frozen h i
theorem irow_make {P : Program} {ops : Array Oper} {rest : List Oper} {o : Oper} {a : Act} {W : World} {Q : Exit → Act → World → Prop} (hgd : o.guard = none) (q : IntKind) (t e : TypeId) (x : Operand) (ho : o.op = .makeSlice t x x) (n : Nat) (hx : a.eval x = .int .i64 n)
  (ht : P.underlying t = some (.slice e)) {i : TypeInfo} (hi : P.info? e = some i) (hz : i.zero = some (.int q 0)) (hs : i.size = 1) (hby : (i.bytes : Int) * (n : Int) ≤ 281474976710656) (hn : n < 2 ^ 62)
  (h : ∀ g, g = W.heap.size → ∀ w1, IRow q e w1 g (List.replicate n 0) → Below W.heap.size W w1 → wpList P ops Q rest (a.put o.dst (.slice (some ⟨g, 0, none⟩) n n)) w1) :
  wpList P ops Q (o :: rest) a W := by
 have hr := run_make (P := P) W t e i (.int q 0) ht hi hz .i64 .i64 (n : Int) (n : Int) (by omega) (by omega) hby (by omega)
 rw [Int.toNat_natCast, hs, Nat.mul_one] at hr
 refine Kd.event_run hgd (w1 := W.alloc (.cells (madeCells (Value.int q 0).cells n) e (0, 0))) (by simp [execOp, ho, hx, hr]) (h _ rfl _ ?_ (below_alloc (Below.refl _ _) _))
 have hm : (madeCells (Value.int q 0).cells n) = ((List.replicate n (0 : Int)).map (Value.int q)).toArray := by
  apply Array.ext'
  rw [show (Value.int q 0).cells = #[.int q 0] from rfl, toList_madeCells_one, List.map_replicate]
 unfold IRow
 rw [← hm]
 exact blk_new W _
/-- The digests of places without a page. -/
def tree_Of.bare (k sz : Nat) : Nat → Nat → Option (List Int)
 | 0, _ => some []
 | n + 1, i => (tree_Leaf.f k i 0 (List.replicate sz 0)).bind fun d => (tree_Of.bare k sz n (i + 1)).bind fun r => some (d :: r)
def tree_Of.lay (k : Nat) : List S39 → List Int → Option (List Int)
 | [], l => some l
 | p :: ps, l => (tree_Leaf.f k p.f0 p.f1 p.f2).bind fun d => tree_Of.lay k ps (l.set p.f0.toNat d)
def tree_Of.f (k : Nat) (a0 a1 a2 : Int) (l3 : List S39) (l4 : List S121) (a5 : Int) (l6 : List Int) : Option (List (List Int) × Int) :=
 if l3.length < 2 ^ 48 ∧ l4.length < 2 ^ 48 ∧ l6.length < 17592186044416 then (machine_Group.f k a5 l6).bind fun rg => if machine_Load.ok a0 a1 a2 l3 l4 (rg == 0) = true then (tree_Of.bare k a2.toNat a1.toNat 0).bind fun l => (tree_Of.lay k l3 l).bind fun l' => tree_Make.f k l' else some ([], 72) else none
theorem tree_Of.mono_bare (k sz : Nat) : ∀ n i, LeO (tree_Of.bare k sz n i) (tree_Of.bare (k + 1) sz n i)
 | 0, _ => LeO.refl _
 | n + 1, i => by
  unfold tree_Of.bare
  exact LeO.bind (tree_Leaf.mono _ _ _ _) (fun _ => LeO.bind (tree_Of.mono_bare k sz n (i + 1)) (fun _ => LeO.refl _))
theorem tree_Of.mono_lay (k : Nat) : ∀ ps l, LeO (tree_Of.lay k ps l) (tree_Of.lay (k + 1) ps l)
 | [], _ => LeO.refl _
 | p :: ps, l => by
  unfold tree_Of.lay
  exact LeO.bind (tree_Leaf.mono _ _ _ _) (fun _ => tree_Of.mono_lay k ps _)
theorem tree_Of.mono : ∀ a0 a1 a2 a3 a4 a5 a6 k, LeO (tree_Of.f k a0 a1 a2 a3 a4 a5 a6) (tree_Of.f (k + 1) a0 a1 a2 a3 a4 a5 a6) := by
 intro a0 a1 a2 a3 a4 a5 a6 k
 unfold tree_Of.f
 refine LeO.ite (LeO.bind (machine_Group.mono _ _ _) (fun rg => ?_)) (LeO.refl _)
 split
 ·exact LeO.bind (tree_Of.mono_bare _ _ _ _) (fun l => LeO.bind (tree_Of.mono_lay _ _ _) (fun l' => tree_Make.mono _ _))
 ·exact LeO.refl _
theorem tree_Of.bare_get (k sz : Nat) : ∀ n i L, tree_Of.bare k sz n i = some L → L.length = n ∧ ∀ j, j < n → ∃ d, tree_Leaf.f k ((i + j : Nat) : Int) 0 (List.replicate sz 0) = some d ∧ L[j]? = some d
 | 0, i, L, h => by
  cases h
  exact ⟨rfl, fun j hj => absurd hj (Nat.not_lt_zero j)⟩
 | n + 1, i, L, h => by
  unfold tree_Of.bare at h
  obtain ⟨d, hd, h⟩ := Option.bind_eq_some_iff.mp h
  obtain ⟨r, hr, h⟩ := Option.bind_eq_some_iff.mp h
  cases h
  obtain ⟨h1, h2⟩ := tree_Of.bare_get k sz n (i + 1) r hr
  refine ⟨by rw [List.length_cons, h1], fun j hj => ?_⟩
  cases j with
  | zero => exact ⟨d, hd, rfl⟩
  | succ j =>
   obtain ⟨d', e1, e2⟩ := h2 j (by omega)
   exact ⟨d', by rw [show i + (j + 1) = i + 1 + j by omega]; exact e1, e2⟩
structure tree_Of.St (w : World) (gs gt gb gl sz : Nat) (bx : Array Value) (cur : List Int) (W : World) : Prop where
 box : W.heap[gs]? = some (.cells bx 69 (0, 0))
 res : W.heap[gt]? = some (.cells #[.slice none 0 0] 24 (0, 0))
 bare : IRow .u8 5 W gb (List.replicate sz 0)
 row : IRow .u32 25 W gl cur
 own : w.heap.size ≤ gt ∧ w.heap.size ≤ gl
 below : Below w.heap.size w W
theorem tree_Of.St.grow {w W W1 : World} {gs gt gb gl sz : Nat} {bx : Array Value} {cur : List Int} (h : tree_Of.St w gs gt gb gl sz bx cur W) (hb : Below W.heap.size W W1) : tree_Of.St w gs gt gb gl sz bx cur W1 :=
 ⟨blk_below h.box hb, blk_below h.res hb, blk_below h.bare hb, blk_below h.row hb, h.own, below_step h.below hb⟩
theorem tree_Of.St.store {w W : World} {gs gt gb gl sz : Nat} {bx : Array Value} {cur : List Int} (h : tree_Of.St w gs gt gb gl sz bx cur W) (i : Nat) (d : Int) : tree_Of.St w gs gt gb gl sz bx (cur.set i d) (W.setCell ⟨gl, i, none⟩ (.int .u32 d)) :=
 ⟨blk_far h.box (volume_Load.ne h.box h.row.blk (by decide)) _, blk_far h.res (volume_Load.ne h.res h.row.blk (by decide)) _, blk_far h.bare (volume_Load.ne h.bare.blk h.row.blk (by decide)) _, h.row.set i d, h.own, h.below.setCell (p := ⟨gl, i, none⟩) h.own.2 _⟩
theorem tree_Of.ok_true {a0 a1 a2 : Int} {l3 : List S39} {l4 : List S121} {g : Bool} (h : machine_Load.ok a0 a1 a2 l3 l4 g = true) : (1 ≤ a1 ∧ a1 ≤ 4096 ∧ 1 ≤ a2 ∧ a2 ≤ 4096) ∧ volume_Load.laidAll a1.toNat a2.toNat (-1) l3 = true := by
 unfold machine_Load.ok at h
 repeat' split at h
 all_goals first | (cases h; done) | skip
 rename_i h1 h2 h3 h4 h5
 have h6 : machine_Load.volOk a1 a2 l3 = true := by
  cases q : machine_Load.volOk a1 a2 l3
  ·exact absurd q h4
  ·rfl
 unfold machine_Load.volOk at h6
 rw [Bool.and_eq_true] at h6
 exact ⟨of_decide_eq_true h6.1, h6.2⟩
theorem tree_Of.laid_in {bl sz : Nat} : ∀ (l : List S39) (last : Int), -1 ≤ last → volume_Load.laidAll bl sz last l = true → ∀ x ∈ l, 0 ≤ x.f0 ∧ x.f0 < bl
 | [], _, _, _, x, hx => by cases hx
 | p :: ps, last, hlast, h, x, hx => by
  unfold volume_Load.laidAll at h
  rw [Bool.and_eq_true] at h
  have hb : volume_Load.bad bl sz last p = false := by
   cases q : volume_Load.bad bl sz last p
   ·rfl
   ·rw [q] at h; exact absurd h.1 (by decide)
  have hp := volume_Load.bad_false hb
  rcases List.mem_cons.1 hx with rfl | hx
  ·omega
  ·exact tree_Of.laid_in ps p.f0 (by omega) h.2 x hx
theorem tree_Of.set_step (L : List Int) (bl n : Nat) (d : Int) (hL : L.length = bl) (hn : n < bl) (hd : L[n]? = some d) : (L.take n ++ List.replicate (bl - n) 0).set n d = L.take (n + 1) ++ List.replicate (bl - (n + 1)) 0 := by
 have e : bl - n = (bl - (n + 1)) + 1 := by omega
 rw [e, List.replicate_succ, List.set_append, if_neg (by rw [List.length_take]; omega)]
 rw [show n - (L.take n).length = 0 by rw [List.length_take]; omega, List.set_cons_zero]
 rw [List.take_add_one, hd]
 simp
theorem tree_Of.tabO : rtab .any (opsOf Try.f39 14) = rtab .any (opsOf Try.f39 14) := rfl
def tree_Of.BO : List Nat := [0, 0, 2, 0, 8, 31, 63]
theorem tree_Of.bitsO : waitsOk (rtab .any (opsOf Try.f39 14)).2 tree_Of.BO = true := by kernel_rfl
theorem tree_Of.St.drew {w W : World} {gs gt gb gl sz : Nat} {bx : Array Value} {cur : List Int} (h : tree_Of.St w gs gt gb gl sz bx cur W) : tree_Of.St w gs gt gb gl sz bx cur W.drew := ⟨h.box, h.res, h.bare, h.row, h.own, below_drew1 h.below⟩
set_option maxHeartbeats 8000000 in
set_option maxRecDepth 100000 in
theorem tree_Of.calls (k : Nat) (a0 a1 a2 : Int) (A3 : Option Addr) (c3 : Nat) (l3 : List S39) (A4 : Option Addr) (c4 : Nat) (l4 : List S121) (a5 : Int) (A6 : Option Addr) (c6 : Nat) (l6 : List Int) (r1 : List (List Int)) (r2 : Int) (w : World)
  (hr3 : Kd.C k39 w A3 l3.length l3) (hc3 : l3.length ≤ c3) (hr4 : Kd.C k121 w A4 l4.length l4) (hc4 : l4.length ≤ c4) (hr6 : Kd.C (Kd.int .i64) w A6 l6.length l6) (hc6 : l6.length ≤ c6) (h : tree_Of.f k a0 a1 a2 l3 l4 a5 l6 = some (r1, r2)) :
  Calls Try.prog 39 #[.agg #[.int .i64 a0, .int .i64 a1, .int .i64 a2, .slice A3 l3.length c3, .slice A4 l4.length c4, .int .i64 a5, .slice A6 l6.length c6]] w fun e w' => ∃ v0_ : Value, e = .returned (.tuple #[.agg #[v0_], .int .i64 r2]) ∧ Kd.V (Kd.slice 25 (Kd.int .u32)) 40 w' w.heap.size (fun k_ => w.heap.size ≤ k_) v0_ r1 ∧ Below w.heap.size w w' := by
 unfold tree_Of.f at h
 split at h
 rotate_left
 ·cases h
 rename_i hlen
 obtain ⟨rg, hg, h⟩ := Option.bind_eq_some_iff.mp h
 have hload := fun w1 g3 g4 g6 => machine_Load.calls w1 k a0 a1 a2 A3 c3 l3 A4 c4 l4 a5 A6 c6 l6 rg g3 hc3 g4 hc4 g6 hc6 hlen.1 hlen.2.1 hlen.2.2 hg
 cases hok : machine_Load.ok a0 a1 a2 l3 l4 (rg == 0)
 ·rw [hok, if_neg (by decide)] at h
  cases h
  rw [hok, if_neg (by decide)] at hload
  go_enter Try.func39, Try.ntmps39
  go_wp2_with (first
   | ((with_reducible refine gate_dst (N := 1) rfl ?_); refine box_event ?hg (N := 1) ?hd (cs := #[.int .i64 a0, .int .i64 a1, .int .i64 a2, .slice A3 l3.length c3, .slice A4 l4.length c4, .int .i64 a5, .slice A6 l6.length c6]) (t := 69) ?hr ?_; (case hd => rfl); (case hg => rfl); (case hr => first | (go_simp; done) | (go_simp; rfl)); intro gs hgs w3 hbox hb; replace hgs := Aside0.mk hgs)
   | ((with_reducible refine gate_dst (N := 2) rfl ?_); refine box_event ?hg (N := 2) ?hd (cs := #[.slice none 0 0]) (t := 24) ?hr ?_; (case hd => rfl); (case hg => rfl); (case hr => first | (go_simp; done) | (go_simp; rfl)); intro gt hgt w4 hbt hbt4; replace hgt := Aside0.mk hgt; have hB4 := Aside0.mk (below_step hb hbt4); replace hbox := blk_below hbox hbt4; obtain ⟨b0, b1, b2, b3, b4, b5, b6⟩ := machine_Load.cells7 hbox; have hT4 := Aside0.mk (show w.heap.size ≤ gt by rw [hgt.out]; exact below_size hb))
   | (refine (hload _ (Kd.C_below hr3 hB4.out) (Kd.C_below hr4 hB4.out) (Kd.C_below hr6 hB4.out)).mono ?_; rintro _ W5 ⟨⟨p5, rfl⟩, hb5⟩; have hB5 := Aside0.mk (below_step hB4.out hb5); replace hbt := blk_below hbt hb5; obtain ⟨t0, t1⟩ := table_Load.cells1 hbt))
  exact bodyPost_ret (results_ct rfl _ _ gt 24 _ _ _ rfl (blk_set hbt 0 (.slice none 0 0)) Try.underlying24 rfl (by kernel_rfl)) rfl ⟨_, rfl, tree_Make.read (World.ownsRow_nil _ _ _ _) (Reps.none _ _), hB5.out.setCell (p := ⟨gt, 0, none⟩) hT4.out _⟩
 ·rw [hok, if_pos rfl] at h
  rw [hok, if_pos rfl] at hload
  obtain ⟨hin, hlaid⟩ := tree_Of.ok_true hok
  obtain ⟨L, hL, h⟩ := Option.bind_eq_some_iff.mp h
  obtain ⟨L', hL', hmk⟩ := Option.bind_eq_some_iff.mp h
  clear h
  obtain ⟨bl, rfl⟩ : ∃ bl : Nat, a1 = bl := ⟨a1.toNat, by omega⟩
  obtain ⟨sz, rfl⟩ : ∃ sz : Nat, a2 = sz := ⟨a2.toNat, by omega⟩
  rw [Int.toNat_natCast, Int.toNat_natCast] at hL hlaid
  obtain ⟨hLl, hLg⟩ := tree_Of.bare_get k sz bl 0 L hL
  have hpl := tree_Of.laid_in l3 (-1) (by omega) hlaid
  have hin' : (1 ≤ bl ∧ bl ≤ 4096) ∧ 1 ≤ sz ∧ sz ≤ 4096 := by omega
  clear hok hg hlaid hL hin
  obtain ⟨i0, hi0, hz0, hz1, hz2⟩ := info_parts info5
  obtain ⟨j0, hj0, hy0, hy1, hy2⟩ := info_parts info25
  go_enter Try.func39, Try.ntmps39
  go_wp2_with (first
   | ((with_reducible refine gate_dst (N := 1) rfl ?_); refine box_event ?hg (N := 1) ?hd (cs := #[.int .i64 a0, .int .i64 bl, .int .i64 sz, .slice A3 l3.length c3, .slice A4 l4.length c4, .int .i64 a5, .slice A6 l6.length c6]) (t := 69) ?hr ?_; (case hd => rfl); (case hg => rfl); (case hr => first | (go_simp; done) | (go_simp; rfl)); intro gs hgs w3 hbox hb; replace hgs := Aside0.mk hgs)
   | ((with_reducible refine gate_dst (N := 2) rfl ?_); refine box_event ?hg (N := 2) ?hd (cs := #[.slice none 0 0]) (t := 24) ?hr ?_; (case hd => rfl); (case hg => rfl); (case hr => first | (go_simp; done) | (go_simp; rfl)); intro gt hgt w4 hbt hbt4; replace hgt := Aside0.mk hgt; have hB4 := Aside0.mk (below_step hb hbt4); replace hbox := blk_below hbox hbt4; obtain ⟨b0, b1, b2, b3, b4, b5, b6⟩ := machine_Load.cells7 hbox; have hT4 := Aside0.mk (show w.heap.size ≤ gt by rw [hgt.out]; exact below_size hb))
   | (refine (hload _ (Kd.C_below hr3 hB4.out) (Kd.C_below hr4 hB4.out) (Kd.C_below hr6 hB4.out)).mono ?_; rintro _ W5 ⟨⟨p5, rfl⟩, hb5⟩; replace hB4 := Aside0.mk (below_step hB4.out hb5); replace hbt := blk_below hbt hb5; replace hbox := blk_below hbox hb5; obtain ⟨b0, b1, b2, b3, b4, b5, b6⟩ := machine_Load.cells7 hbox)
   | ((with_reducible refine gate_dst (N := 23) rfl ?_); refine irow_make rfl .u8 37 5 (.tmp 22) rfl sz rfl Try.underlying37 hi0 hz0 hz1 (by rw [hz2]; omega) (by omega) ?_; intro gb hgb W6 hrb hb6; replace hgb := Aside0.mk hgb; replace hB4 := Aside0.mk (below_step hB4.out hb6); replace hbt := blk_below hbt hb6; replace hbox := blk_below hbox hb6; obtain ⟨b0, b1, b2, b3, b4, b5, b6⟩ := machine_Load.cells7 hbox)
   | ((with_reducible refine gate_dst (N := 27) rfl ?_); refine irow_make rfl .u32 40 25 (.tmp 26) rfl bl rfl Try.underlying40 hj0 hy0 hy1 (by rw [hy2]; omega) (by omega) ?_; intro gl hgl W7 hrl hb7; have hst0 : tree_Of.St w gs gt gb gl sz _ _ W7 := ⟨blk_below hbox hb7, blk_below hbt hb7, blk_below hrb hb7, hrl, ⟨hT4.out, by rw [hgl]; exact below_size hB4.out⟩, below_step hB4.out hb7⟩; replace hgl := Aside0.mk hgl))
  clear hbox hbt hrb hrl hb hb5 hb6 hb7 hbt4 hgs hgt hgb hgl hB4 hT4 hload b0 b1 b2 b3 b4 b5 b6
  go_loopw [30] (fun q wr => ∃ n : Nat, q = .int .i64 (n : Int) ∧ n ≤ bl ∧ tree_Of.St w gs gt gb gl sz #[.int .i64 a0, .int .i64 bl, .int .i64 sz, .slice A3 l3.length c3, .slice A4 l4.length c4, .int .i64 a5, .slice A6 l6.length c6] (L.take n ++ List.replicate (bl - n) 0) wr) (fun q wr => bl - (intOf q).toNat)
  case atStart => exact ⟨0, rfl, by omega, by simpa using hst0⟩
  case round =>
   obtain ⟨n, rfl, hn, hst⟩ := hrel
   clear hst0
   by_cases e : n < bl
   ·have e1 : decide ((n : Int) < (bl : Int)) = true := decide_eq_true (by omega)
    have e2 : decide (0 ≤ (n : Int)) = true := decide_eq_true (by omega)
    obtain ⟨d, hd, hLd⟩ := hLg n e
    rw [Nat.zero_add] at hd
    have hcall := fun w1 (hs : IRow .u8 5 w1 gb (List.replicate sz 0)) => tree_Leaf.calls k n 0 (fun k_ => k_ < w1.heap.size) (some ⟨gb, 0, none⟩) sz (List.replicate sz 0) d w1 (Kd.V_mk (by simp) (Kd.C_F (Kd.heap_int .u8) (hs.C (by simp; omega)))) hd
    rw [List.length_replicate] at hcall
    have hset := tree_Of.set_step L bl n d hLl e hLd
    go_wp2_with (first
     | (refine (hcall _ hst.bare).mono ?_; rintro _ W8 ⟨rfl, hb8⟩; replace hst := hst.grow hb8; have hc8 := hst.row.cell n (by rw [List.length_append, List.length_take, List.length_replicate]; omega); have hf8 := hst.row.frozen n))
    exact ⟨⟨n + 1, rfl, by omega, by have := hst.store n d; rw [hset] at this; exact this⟩, by simp only [intOf]; omega⟩
   ·obtain rfl : n = bl := by omega
    clear hLg
    rw [Nat.sub_self, List.replicate_zero, List.append_nil, ← hLl, List.take_length, hLl] at hst
    obtain ⟨b0, b1, b2, b3, b4, b5, b6⟩ := machine_Load.cells7 hst.box
    go_wp2
    clear b0 b1 b2 b3 b4 b5 b6
    go_loopw [44] (fun q wr => ∃ (m : Nat) (cur : List Int), q = .int .i64 (m : Int) ∧ m ≤ l3.length ∧ cur.length = n ∧ tree_Of.lay k (l3.drop m) cur = some L' ∧ tree_Of.St w gs gt gb gl sz #[.int .i64 a0, .int .i64 n, .int .i64 sz, .slice A3 l3.length c3, .slice A4 l4.length c4, .int .i64 a5, .slice A6 l6.length c6] cur wr) (fun q wr => l3.length - (intOf q).toNat)
    case atStart => exact ⟨0, L, rfl, by omega, hLl, by rw [List.drop_zero]; exact hL', hst⟩
    case round =>
     clear hst hL' hLl
     obtain ⟨m, cur, rfl, hm, hcl, hlay, hst⟩ := hrel
     by_cases e : m < l3.length
     ·obtain ⟨ad, A2, c2, eA, h0, h1, h2, hl2, hi2⟩ := at_T39 hr3 m (by omega) (by omega)
      cases eA
      replace h0 := (hst.below.cell (World.block_lt_of_cell? w _ h0)).trans h0
      replace h1 := (hst.below.cell (World.block_lt_of_cell? w _ h1)).trans h1
      replace h2 := (hst.below.cell (World.block_lt_of_cell? w _ h2)).trans h2
      have hd : l3.drop m = rd_T39 l3 m :: l3.drop (m + 1) := by
       rw [List.drop_eq_getElem_cons e, rd_T39, Int.toNat_natCast, List.getD_eq_getElem?_getD, List.getElem?_eq_getElem e, Option.getD_some]
      have hmem : rd_T39 l3 m ∈ l3 := by
       rw [rd_T39, Int.toNat_natCast, List.getD_eq_getElem?_getD, List.getElem?_eq_getElem e, Option.getD_some]
       exact List.getElem_mem _
      have hx0 := hpl _ hmem
      obtain ⟨x, hx⟩ : ∃ x, rd_T39 l3 (m : Int) = x := ⟨_, rfl⟩
      rw [hx] at h0 h1 h2 hl2 hi2 hd hx0
      rw [Int.toNat_natCast] at h0 h1 h2
      rw [hd, tree_Of.lay] at hlay
      obtain ⟨d, hld, hlay⟩ := Option.bind_eq_some_iff.mp hlay
      replace hlay := Aside0.mk hlay
      replace hi2 := Aside0.mk hi2
      have e1 : decide ((m : Int) < (l3.length : Int)) = true := decide_eq_true (by omega)
      have e2 : decide (0 ≤ (m : Int)) = true := decide_eq_true (by omega)
      have e3 : decide (0 ≤ x.f0) = true := decide_eq_true hx0.1
      have e4 : decide (x.f0 < (n : Int)) = true := decide_eq_true hx0.2
      clear hx hd hmem
      go_wp2
      have hbx := blk_new wr (.cells #[.int .i64 x.f0, .int .i64 x.f1, .slice A2 x.f2.length c2] 39 (0, 0))
      have hst3 := hst.grow (below_alloc (Below.refl wr.heap.size wr) (.cells #[.int .i64 x.f0, .int .i64 x.f1, .slice A2 x.f2.length c2] 39 (0, 0)))
      generalize wr.alloc (.cells #[.int .i64 x.f0, .int .i64 x.f1, .slice A2 x.f2.length c2] 39 (0, 0)) = W3 at hbx hst3 ⊢
      generalize wr.heap.size = gp at hbx ⊢
      clear hst h0 h1 h2
      refine start_ (n := 7) (S := fun w' => w'.cell? ⟨gp, 0, none⟩ = some (.int .i64 x.f0) ∧ w'.cell? ⟨gp, 1, none⟩ = some (.int .i64 x.f1) ∧ w'.cell? ⟨gp, 2, none⟩ = some (.slice A2 x.f2.length c2)) (ds := [6]) (Array.replicate 7 false) (by kernel_rfl) rfl rfl ⟨(blk_cell hbx 0).trans rfl, (blk_cell hbx 1).trans rfl, (blk_cell hbx 2).trans rfl⟩ (fun hHeld => ?_)
      refine with_tabW tree_Of.tabO tree_Of.bitsO (fun HT_ HW_ => ?_)
      replace hbx := blk_drew hbx
      replace hst3 := hst3.drew
      generalize W3.drew = W4 at hbx hst3 hHeld ⊢
      refine pM 0 48 HT_.out ?_; refine pM 1 49 HT_.out ?_; refine tM 2 50 HT_.out HW_.out hHeld ?_; refine tM 3 51 HT_.out HW_.out hHeld ?_
      refine oM 4 52 HT_.out (fun K hK => ?_)
      refine gM Try.func23 #[.agg #[.int .i64 x.f0, .int .i64 x.f1, .slice A2 x.f2.length c2]] ?_
      refine (tree_Leaf.calls k x.f0 x.f1 (fun k_ => k_ < W4.heap.size) A2 c2 x.f2 d W4 (Kd.V_mk hl2 (Kd.C_F (Kd.heap_int .u8) (Kd.C_below hi2.out hst3.below))) hld).mono ?_
      rintro e w5 ⟨rfl, hb5⟩
      refine ⟨_, rfl, ?_⟩
      replace hbx := blk_below hbx hb5
      replace hst3 := hst3.grow hb5
      refine hK.out _ _ ⟨(blk_cell hbx 0).trans rfl, (blk_cell hbx 1).trans rfl, (blk_cell hbx 2).trans rfl⟩ (fun hHeld => ?_)
      clear hK K
      refine nM 52 ?_
      have hin5 : x.f0.toNat < cur.length := by omega
      have hc8 := hst3.row.cell x.f0.toNat hin5
      have hf8 := hst3.row.frozen x.f0.toNat
      refine pM 5 53 HT_.out ?_
      refine last_ (i := 6) (N := none) #[true, true, true, true, true, true, true] rfl rfl (one_of HT_.out (by kernel_rfl)) (by decide) (fun K hK => ?_)
      refine skip_ (w1 := ?_) (by rfl) rfl ?_ ?_
      rotate_left
      ·go_simp
       rfl
      refine hK.out _ _ ?_
      clear hK K
      refine done_ (done_of HT_.out (by kernel_rfl)) ?_
      go_wp2
      exact ⟨⟨m + 1, cur.set x.f0.toNat d, rfl, by omega, by rw [List.length_set, hcl], hlay.out, hst3.store _ _⟩, by simp only [intOf]; omega⟩
     ·obtain rfl : m = l3.length := by omega
      rw [List.drop_length, tree_Of.lay] at hlay
      obtain rfl : cur = L' := Option.some.inj hlay
      have hmake := fun w1 (hs : IRow .u32 25 w1 gl cur) => tree_Make.calls k (some ⟨gl, 0, none⟩) n cur r1 r2 w1 (hs.C (by omega)) (by omega) hmk
      rw [hcl] at hmake
      go_wp2_with (first
       | (refine (hmake _ hst.row).mono ?_; rintro _ W9 ⟨v0, rfl, hV9, hb9⟩; obtain ⟨Av, cv, rfl, hlv, hFv⟩ := hV9; have hB9 := Aside0.mk (below_size hst.below); have hgtlt := Aside0.mk (blk_lt hst.res); replace hst := hst.grow hb9; obtain ⟨t0, t1⟩ := table_Load.cells1 hst.res))
      have hgt : gt < wr.heap.size := hgtlt.out
      refine bodyPost_ret (results_ct rfl _ _ gt 24 _ _ _ rfl (blk_set hst.res 0 (Value.slice Av r1.length cv)) Try.underlying24 rfl (by kernel_rfl)) rfl ⟨_, rfl, ?_, hst.below.setCell (p := ⟨gt, 0, none⟩) hst.own.1 _⟩
      refine ⟨Av, cv, rfl, hlv, fun W2 hW2 => hFv W2 fun k0 hk0 hlt => ?_⟩
      have hs9 := (World.size_setCell W9 ⟨gt, 0, none⟩ (Value.slice Av r1.length cv))
      have hk1 : wr.heap.size ≤ k0 := hk0
      exact (hW2 k0 (Nat.le_trans hB9.out hk1) (by rw [hs9]; exact hlt)).trans (Below.heap_setCell W9 ⟨gt, 0, none⟩ _ k0 (by rintro rfl; omega))

end Go.Proofs.Ytbmmddngadnofaa.F
