-- Written by ext (this session's own program).
import Derived.Test.YthihacpohbjbiaaProg
import Derived.Below
import Derived.Deep.Draws
import Derived.Deep.AppendLies
import Derived.Maps.AppendAt
import Derived.OwnWalk
import Derived.Laws.BytesArg
import Derived.Laws.MakeOwn
import Derived.Laws.OwnMore
import Derived.Deep.OwnRows
import Derived.Tactics
import Derived.Lib.ConvBytes
import Derived.Laws.Slices
import Derived.WalkKit
import Derived.KernelRfl
import Derived.RowKit3
import Derived.Deep.LoopGhost
import Derived.Deep.QuietTactic
import Derived.BigQuiet
import Derived.WideLaws
import Derived.Deep.DeepCutAuto
import Derived.Deep.CutBlock
import Derived.Deep.RegionHeld3
import Derived.Laws.Rows
import Derived.Lib.AppendStr
import Derived.ArgAppend
import Derived.Laws.IdiomCopy
import Derived.OrdersHeld
import Derived.Laws.BitsLemmas
import Derived.RowKit
import Derived.Lib.SliceRun
import Derived.Lib.SlBytesConst
import Derived.Test.YthihacpohbjbiaaWWords
import Derived.Test.YthihacpohbjbiaaWLast
import Derived.Test.YthihacpohbjbiaaWTab
import Derived.Test.YthihacpohbjbiaaWFour
import Derived.Test.YthihacpohbjbiaaWQPut
import Derived.Test.YthihacpohbjbiaaWApart
import Derived.Test.YthihacpohbjbiaaWArr
import Derived.Test.YthihacpohbjbiaaWZeros
import Derived.Test.YthihacpohbjbiaaWFoot
import Derived.Test.YthihacpohbjbiaaWKept
import Derived.Test.YthihacpohbjbiaaWShare
import Derived.Test.YthihacpohbjbiaaWN
import Derived.Test.YthihacpohbjbiaaWFootNe
import Derived.Test.YthihacpohbjbiaaWAt
import Derived.Test.YthihacpohbjbiaaWEqStruct
import Derived.Test.YthihacpohbjbiaaWRepsOne
import Derived.Test.YthihacpohbjbiaaWInv
import Derived.Test.YthihacpohbjbiaaWInvWords
import Derived.Test.YthihacpohbjbiaaWGuard
import Derived.Test.YthihacpohbjbiaaWNEv
import Derived.Test.YthihacpohbjbiaaWMore
namespace Go.Proofs.Ythihacpohbjbiaa.F
open Go.RowKit Go.Proofs.YthihacpohbjbiaaW.PrintWords Go.Proofs.YthihacpohbjbiaaW.PrintLast Go.Proofs.YthihacpohbjbiaaW.PrintMore
attribute [local go_sem] max2_int min2_int max_two min_two max_three min_three max_four min_four   -- for this text's walks alone
set_option linter.unusedVariables false
set_option linter.unusedSimpArgs false



def errW : Option Int → Value
  | none => .nilIface
  | some c => .iface 0 (.int .i64 c)
theorem errW_none : errW none = .nilIface := rfl
theorem errW_some (c : Int) : errW (some c) = .iface 0 (.int .i64 c) := rfl

theorem info5 : (Try.prog.info? 5).map (fun i => (i.zero, i.size, i.bytes)) = some (some (.int .u8 0), 1, 1) := by kernel_rfl
theorem info23 : (Try.prog.info? 23).map (fun i => (i.zero, i.size, i.bytes)) = some (some (.int .u64 0), 1, 8) := by kernel_rfl
-- the values' own types

/-! ### words of this session's own -/
theorem ext_nil {α : Type} {d : Kd α} {w : World} {l : List α} (h : d.C w none l.length l) : l = [] := by
  rcases l with _ | ⟨x, l⟩
  · rfl
  · obtain ⟨ad, h1, _⟩ := h.2.2 (by simp)
    cases h1
section
variable {P : Program} {ops : Array Oper} {rest : List Oper} {o o2 : Oper} {a : Act} {Q : Exit → Act → World → Prop}
/-- A constant text as bytes, '[]byte("..")': a literal, and behind it the conversion to its own type, which marks the place behind its end. -/
theorem ext_litc {w0 W : World} (base t e : Nat) (hgd : o.guard = none) (hgd2 : o2.guard = none) {N : Tmp} (_hd : o.dst = some N) (xs : List Int)
    (ht : P.underlying t = some (.slice e)) (he : P.underlying e = some (.int .u8))
    (hrun : (execOp a.eval o).run P W = .ok (.value (.slice (some ⟨W.heap.size, 0, none⟩) xs.length xs.length)) (W.alloc (.cells (nums .u8 xs).toArray e)))
    (hrun2 : ∀ w2 w3, (convert t t (.slice (some ⟨W.heap.size, 0, none⟩) xs.length xs.length)).run P w2 = .ok (.slice (some ⟨W.heap.size, 0, none⟩) xs.length xs.length) w3 →
      (execOp (a.put o.dst (.slice (some ⟨W.heap.size, 0, none⟩) xs.length xs.length)).eval o2).run P w2 = .ok (.value (.slice (some ⟨W.heap.size, 0, none⟩) xs.length xs.length)) w3)
    (HB : Below base w0 W) (hbase : base ≤ W.heap.size) (hm : xs.length ≤ 9223372036854775807)
    (h : ∀ v1 w1, Kd.V (Kd.int .u8) e w1 base (fun k_ => W.heap.size ≤ k_) v1 xs → Below base w0 w1 → W.grownBy w1 none → (∃ b, v1.ownBlock = some b ∧ W.heap.size ≤ b) → wpList P ops Q rest ((a.put o.dst v1).put o2.dst v1) w1) :
    wpList P ops Q (o :: o2 :: rest) a W := by
  refine Kd.event_run hgd hrun ?_
  have hc := Lib.run_convert_bytes_const (P := P) W t e (nums .u8 xs).toArray xs.length xs.length ht he
  refine Kd.event_run hgd2 (hrun2 _ _ hc) ?_
  refine h _ _ ⟨_, _, rfl, Nat.le_refl _, fun W' hW' => ?_⟩ (HB.alloc hbase _) (World.grownBy_alloc W _ none) ⟨W.heap.size, by simp [Value.ownBlock], Nat.le_refl _⟩
  have hb : W'.heap[W.heap.size]? = some (.cells (nums .u8 xs).toArray e ((nums .u8 xs).toArray.size, (nums .u8 xs).toArray.size + 1)) := by
    rw [hW' W.heap.size (Nat.le_refl _) (by simp)]
    exact heap_alloc_new W _
  refine ⟨rfl, hm, fun _ => ⟨_, rfl, fun j p hj => ⟨[.int .u8 p], rfl, rfl, fun i u hi => ?_⟩⟩⟩
  obtain rfl : i = 0 := by
    rcases i with _ | i
    · rfl
    · simp at hi
  obtain rfl : Value.int .u8 p = u := by simpa using hi
  have hsz : (Kd.int .u8).sz = 1 := rfl
  rw [hsz, Nat.mul_one, Nat.add_zero, add_plain]
  have hn : (nums .u8 xs)[j]? = some (.int .u8 p) := by simp [nums, hj]
  simp [World.cell?, hb, hn]
end
theorem ext_reps_drewN {α : Type} {d : Kd α} {w : World} {n : Nat} {ok : Nat → Prop} {sz : Nat} {xs : List α} {inner : List Value} (h : Reps (Kd.FK d w ok) sz xs inner) : Reps (Kd.FK d (w.drewN n) ok) sz xs inner :=
  h.imp_ fun _ _ hp => Foot.step hp (fun _ _ _ => rfl)
theorem ext_reps_drew {α : Type} {d : Kd α} {w : World} {ok : Nat → Prop} {sz : Nat} {xs : List α} {inner : List Value} (h : Reps (Kd.FK d w ok) sz xs inner) : Reps (Kd.FK d w.drew ok) sz xs inner :=
  h.imp_ fun _ _ hp => Foot.step hp (fun _ _ _ => rfl)
theorem ext_reps_alloc {α : Type} {d : Kd α} {w : World} {o : Obj} {ok : Nat → Prop} {sz : Nat} {xs : List α} {inner : List Value} (h : Reps (Kd.FK d w ok) sz xs inner) : Reps (Kd.FK d (w.alloc o) ok) sz xs inner :=
  h.imp_ fun _ _ hp => Foot.step hp (fun k _ hk => (below_alloc (Below.refl w.heap.size w) o).block k hk)
theorem ext_rdn {α : Type} {R : α → List Value → Prop} {sz : Nat} {w : World} {A : Option Addr} {n m : Nat} {ps : List α} (h : n = m) (hr : ReadsRow R sz w A n ps) : ReadsRow R sz w A m ps := h ▸ hr

end Go.Proofs.Ythihacpohbjbiaa.F
