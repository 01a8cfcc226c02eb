-- Written by ext (this session's own program).
-- in short rows (short.py)
import Derived.Test.YtbmmddngadnofaaProg
import Derived.Below
import Derived.Deep.Draws
import Derived.Deep.AppendLies
import Derived.Maps.AppendAt
import Derived.OwnWalk
import Derived.Laws.BytesArg
import Derived.Laws.MakeOwn
import Derived.Laws.OwnMore
import Derived.Deep.OwnRows
import Derived.Tactics
import Derived.Lib.ConvBytes
import Derived.Laws.Slices
import Derived.WalkKit
import Derived.KernelRfl
import Derived.RowKit3
import Derived.Deep.LoopGhost
import Derived.Deep.QuietTactic
import Derived.BigQuiet
import Derived.WideLaws
import Derived.Deep.DeepCutAuto
import Derived.Deep.CutBlock
import Derived.Deep.RegionHeld3
import Derived.Laws.Rows
import Derived.Lib.AppendStr
import Derived.ArgAppend
import Derived.Laws.IdiomCopy
import Derived.OrdersHeld
import Derived.Laws.BitsLemmas
import Derived.RowKit
import Derived.Lib.SliceRun
import Derived.Lib.SlBytesConst
import Derived.Test.YtbmmddngadnofaaVoc0
namespace Go.Proofs.Ytbmmddngadnofaa.F
open Go.RowKit Go.Proofs.YtbmmddngadnofaaW.PrintWords Go.Proofs.YtbmmddngadnofaaW.PrintLast Go.Proofs.YtbmmddngadnofaaW.PrintMore
attribute [local go_sem] max2_int min2_int max_two min_two max_three min_three max_four min_four   -- for this text's walks alone
set_option linter.unusedVariables false
set_option linter.unusedSimpArgs false



def errW : Option Int → Value
 | none => .nilIface
 | some c => .iface 0 (.int .i64 c)
theorem errW_none : errW none = .nilIface := rfl
theorem errW_some (c : Int) : errW (some c) = .iface 0 (.int .i64 c) := rfl

theorem info3 : (Try.prog.info? 3).map (fun i => (i.zero, i.size, i.bytes)) = some (some (.int .i64 0), 1, 8) := by kernel_rfl
theorem info5 : (Try.prog.info? 5).map (fun i => (i.zero, i.size, i.bytes)) = some (some (.int .u8 0), 1, 1) := by kernel_rfl
theorem info25 : (Try.prog.info? 25).map (fun i => (i.zero, i.size, i.bytes)) = some (some (.int .u32 0), 1, 4) := by kernel_rfl
theorem info37 : (Try.prog.info? 37).map (fun i => (i.zero, i.size, i.bytes)) = some (some (.slice none 0 0), 1, 24) := by kernel_rfl
theorem info39 : (Try.prog.info? 39).map (fun i => (i.zero, i.size, i.bytes)) = some (some (.agg #[(.int .i64 0), (.int .i64 0), (.slice none 0 0)]), 3, 40) := by kernel_rfl
theorem info40 : (Try.prog.info? 40).map (fun i => (i.zero, i.size, i.bytes)) = some (some (.slice none 0 0), 1, 24) := by kernel_rfl
theorem info85 : (Try.prog.info? 85).map (fun i => (i.zero, i.size, i.bytes)) = some (some (.int .u64 0), 1, 8) := by kernel_rfl
-- the values' own types
def rd_L1 (xs : List (List Int)) (i : Int) : (List Int) := xs.getD i.toNat ([] : List Int)
theorem at_L1 {w : World} {A : Option Addr} {n : Nat} {xs : List (List Int)} (h : Kd.C (Kd.slice 25 (Kd.int .u32)) w A n xs) (i : Int) (h0 : 0 ≤ i) (h1 : i < n) : ∃ ad A0 c0, A = some ad ∧ w.cell? (ad.add i.toNat) = some (.slice A0 (rd_L1 xs i).length c0) ∧ (rd_L1 xs i).length ≤ c0 ∧ (Kd.int .u32).C w A0 (rd_L1 xs i).length (rd_L1 xs i) := by
 obtain ⟨ad, c, e, _, hK, hc0⟩ := Kd.C_get h ([] : List Int) i h0 h1
 have hc : ∀ j u, c[j]? = some u → w.cell? (ad.add (i.toNat * 1 + j)) = some u := hc0
 obtain ⟨A0, c0, rfl, l0, g0⟩ := hK
 exact ⟨ad, A0, c0, e, by have hq := hc 0 _ rfl; rwa [Nat.mul_one, Nat.add_zero] at hq, l0, g0⟩

def rd_L3 (xs : List (List Int)) (i : Int) : (List Int) := xs.getD i.toNat ([] : List Int)
theorem at_L3 {w : World} {A : Option Addr} {n : Nat} {xs : List (List Int)} (h : Kd.C (Kd.slice 5 (Kd.int .u8)) w A n xs) (i : Int) (h0 : 0 ≤ i) (h1 : i < n) : ∃ ad A0 c0, A = some ad ∧ w.cell? (ad.add i.toNat) = some (.slice A0 (rd_L3 xs i).length c0) ∧ (rd_L3 xs i).length ≤ c0 ∧ (Kd.int .u8).C w A0 (rd_L3 xs i).length (rd_L3 xs i) := by
 obtain ⟨ad, c, e, _, hK, hc0⟩ := Kd.C_get h ([] : List Int) i h0 h1
 have hc : ∀ j u, c[j]? = some u → w.cell? (ad.add (i.toNat * 1 + j)) = some u := hc0
 obtain ⟨A0, c0, rfl, l0, g0⟩ := hK
 exact ⟨ad, A0, c0, e, by have hq := hc 0 _ rfl; rwa [Nat.mul_one, Nat.add_zero] at hq, l0, g0⟩

def rd_L5 (xs : List (List (List Int))) (i : Int) : (List (List Int)) := xs.getD i.toNat ([] : List (List Int))
theorem at_L5 {w : World} {A : Option Addr} {n : Nat} {xs : List (List (List Int))} (h : Kd.C (Kd.slice 40 (Kd.slice 25 (Kd.int .u32))) w A n xs) (i : Int) (h0 : 0 ≤ i) (h1 : i < n) : ∃ ad A0 c0, A = some ad ∧ w.cell? (ad.add i.toNat) = some (.slice A0 (rd_L5 xs i).length c0) ∧ (rd_L5 xs i).length ≤ c0 ∧ (Kd.slice 25 (Kd.int .u32)).C w A0 (rd_L5 xs i).length (rd_L5 xs i) := by
 obtain ⟨ad, c, e, _, hK, hc0⟩ := Kd.C_get h ([] : List (List Int)) i h0 h1
 have hc : ∀ j u, c[j]? = some u → w.cell? (ad.add (i.toNat * 1 + j)) = some u := hc0
 obtain ⟨A0, c0, rfl, l0, g0⟩ := hK
 exact ⟨ad, A0, c0, e, by have hq := hc 0 _ rfl; rwa [Nat.mul_one, Nat.add_zero] at hq, l0, g0⟩

/-! #### struct type 24 -/
structure S24 where
 f0 : (List (List Int))
def z24 : S24 := ⟨([] : List (List Int))⟩
def k24 : Kd S24 := Kd.iso (Kd.slice 40 (Kd.slice 25 (Kd.int .u32))) (fun x : S24 => x.f0)
theorem k24_heap : Kd.Heap k24 := Kd.heap_iso _ (Kd.heap_slice 40 (Kd.heap_slice 25 (Kd.heap_int .u32)))
theorem k24_open {w : World} {x : S24} {cs : List Value} (h : k24.K w x cs) : ∃ A0 c0, cs = [.slice A0 x.f0.length c0] ∧ x.f0.length ≤ c0 ∧ (Kd.slice 25 (Kd.int .u32)).C w A0 x.f0.length x.f0 := by
 obtain ⟨A0, c0, rfl, l0, g0⟩ := h
 exact ⟨A0, c0, rfl, l0, g0⟩
theorem k24_openM {w : World} {base : Nat} {ok : Nat → Prop} {x : S24} {cs : List Value} (h : k24.M w base ok x cs) : ∃ v0, cs = [v0] ∧ (Kd.slice 25 (Kd.int .u32)).R 40 w base ok v0 x.f0 := by
 obtain ⟨v0, rfl, g0⟩ := h
 exact ⟨v0, rfl, g0⟩
theorem k24_mk (w : World) (x : S24) {A0 : Option Addr} {c0 : Nat} (l0 : x.f0.length ≤ c0) (g0 : (Kd.slice 25 (Kd.int .u32)).C w A0 x.f0.length x.f0) : k24.K w x [.slice A0 x.f0.length c0] := ⟨A0, c0, rfl, l0, g0⟩
theorem k24_mkM (w : World) (base : Nat) (ok : Nat → Prop) (x : S24) {v0 : Value} (g0 : (Kd.slice 25 (Kd.int .u32)).R 40 w base ok v0 x.f0) : k24.M w base ok x [v0] := ⟨v0, rfl, g0⟩
theorem k24_openF {W : World} {ok : Nat → Prop} {x : S24} {cs : List Value} (h : Kd.FK k24 W ok x cs) : ∃ A0 c0, cs = [.slice A0 x.f0.length c0] ∧ x.f0.length ≤ c0 ∧ Kd.F (Kd.slice 25 (Kd.int .u32)) W ok A0 x.f0.length x.f0 := by
 obtain ⟨A0, c0, rfl, l0, _⟩ := k24_open (Kd.FK_now h)
 exact ⟨A0, c0, rfl, l0, (fun W' hW => by obtain ⟨A0_, c0_, he, l0_, g0_⟩ := k24_open (h W' hW); injection (Option.some.inj (show some (Value.slice A0 x.f0.length c0) = some (Value.slice A0_ x.f0.length c0_) from congrArg (fun l => l[0]?) he)) with ha_ _ _; rw [ha_]; exact g0_)⟩
theorem k24_mkF (W : World) (ok : Nat → Prop) (x : S24) {A0 : Option Addr} {c0 : Nat} (l0 : x.f0.length ≤ c0) (g0 : Kd.F (Kd.slice 25 (Kd.int .u32)) W ok A0 x.f0.length x.f0) : Kd.FK k24 W ok x [.slice A0 x.f0.length c0] := fun W2 hW => k24_mk W2 x l0 (g0 W2 hW)
def rd_T24 (xs : List S24) (i : Int) : S24 := xs.getD i.toNat z24
theorem at_T24 {w : World} {A : Option Addr} {n : Nat} {xs : List S24} (h : Kd.C k24 w A n xs) (i : Int) (h0 : 0 ≤ i) (h1 : i < n) : ∃ ad A0 c0, A = some ad ∧ w.cell? (ad.add i.toNat) = some (.slice A0 (rd_T24 xs i).f0.length c0) ∧ (rd_T24 xs i).f0.length ≤ c0 ∧ (Kd.slice 25 (Kd.int .u32)).C w A0 (rd_T24 xs i).f0.length (rd_T24 xs i).f0 := by
 obtain ⟨ad, c, e, _, hK, hc0⟩ := Kd.C_get h z24 i h0 h1
 have hc : ∀ j u, c[j]? = some u → w.cell? (ad.add (i.toNat * 1 + j)) = some u := hc0
 obtain ⟨A0, c0, rfl, l0, g0⟩ := k24_open hK
 exact ⟨ad, A0, c0, e, by have hq := hc 0 _ rfl; rwa [Nat.mul_one, Nat.add_zero] at hq, l0, g0⟩

/-! #### struct type 27 -/
structure S27 where
 f0 : Int
 f1 : (List (List Int))
def z27 : S27 := ⟨(0 : Int), ([] : List (List Int))⟩
def k27 : Kd S27 := Kd.iso (Kd.pair (Kd.int .i64) (Kd.slice 40 (Kd.slice 25 (Kd.int .u32)))) (fun x : S27 => (x.f0, x.f1))
theorem k27_heap : Kd.Heap k27 := Kd.heap_iso _ (Kd.heap_pair (Kd.heap_int .i64) (Kd.heap_slice 40 (Kd.heap_slice 25 (Kd.heap_int .u32))))
theorem k27_open {w : World} {x : S27} {cs : List Value} (h : k27.K w x cs) : ∃ A1 c1, cs = [.int .i64 x.f0, .slice A1 x.f1.length c1] ∧ x.f1.length ≤ c1 ∧ (Kd.slice 25 (Kd.int .u32)).C w A1 x.f1.length x.f1 := by
 obtain ⟨_, _, rfl, rfl, ⟨A1, c1, rfl, l1, g1⟩⟩ := h
 exact ⟨A1, c1, rfl, l1, g1⟩
theorem k27_openM {w : World} {base : Nat} {ok : Nat → Prop} {x : S27} {cs : List Value} (h : k27.M w base ok x cs) : ∃ v1, cs = [.int .i64 x.f0, v1] ∧ (Kd.slice 25 (Kd.int .u32)).R 40 w base ok v1 x.f1 := by
 obtain ⟨_, _, rfl, rfl, ⟨v1, rfl, g1⟩⟩ := h
 exact ⟨v1, rfl, g1⟩
theorem k27_mk (w : World) (x : S27) {A1 : Option Addr} {c1 : Nat} (l1 : x.f1.length ≤ c1) (g1 : (Kd.slice 25 (Kd.int .u32)).C w A1 x.f1.length x.f1) : k27.K w x [.int .i64 x.f0, .slice A1 x.f1.length c1] := ⟨[.int .i64 x.f0], [.slice A1 x.f1.length c1], rfl, rfl, ⟨A1, c1, rfl, l1, g1⟩⟩
theorem k27_mkM (w : World) (base : Nat) (ok : Nat → Prop) (x : S27) {v1 : Value} (g1 : (Kd.slice 25 (Kd.int .u32)).R 40 w base ok v1 x.f1) : k27.M w base ok x [.int .i64 x.f0, v1] := ⟨[.int .i64 x.f0], [v1], rfl, rfl, ⟨v1, rfl, g1⟩⟩
theorem k27_openF {W : World} {ok : Nat → Prop} {x : S27} {cs : List Value} (h : Kd.FK k27 W ok x cs) : ∃ A1 c1, cs = [.int .i64 x.f0, .slice A1 x.f1.length c1] ∧ x.f1.length ≤ c1 ∧ Kd.F (Kd.slice 25 (Kd.int .u32)) W ok A1 x.f1.length x.f1 := by
 obtain ⟨A1, c1, rfl, l1, _⟩ := k27_open (Kd.FK_now h)
 exact ⟨A1, c1, rfl, l1, (fun W' hW => by obtain ⟨A1_, c1_, he, l1_, g1_⟩ := k27_open (h W' hW); injection (Option.some.inj (show some (Value.slice A1 x.f1.length c1) = some (Value.slice A1_ x.f1.length c1_) from congrArg (fun l => l[1]?) he)) with ha_ _ _; rw [ha_]; exact g1_)⟩
theorem k27_mkF (W : World) (ok : Nat → Prop) (x : S27) {A1 : Option Addr} {c1 : Nat} (l1 : x.f1.length ≤ c1) (g1 : Kd.F (Kd.slice 25 (Kd.int .u32)) W ok A1 x.f1.length x.f1) : Kd.FK k27 W ok x [.int .i64 x.f0, .slice A1 x.f1.length c1] := fun W2 hW => k27_mk W2 x l1 (g1 W2 hW)
def rd_T27 (xs : List S27) (i : Int) : S27 := xs.getD i.toNat z27
theorem at_T27 {w : World} {A : Option Addr} {n : Nat} {xs : List S27} (h : Kd.C k27 w A n xs) (i : Int) (h0 : 0 ≤ i) (h1 : i < n) : ∃ ad A1 c1, A = some ad ∧ w.cell? (ad.add (i.toNat * 2)) = some (.int .i64 (rd_T27 xs i).f0) ∧ w.cell? ⟨(ad.add (i.toNat * 2)).block, (ad.add (i.toNat * 2)).off + 1, none⟩ = some (.slice A1 (rd_T27 xs i).f1.length c1) ∧ (rd_T27 xs i).f1.length ≤ c1 ∧ (Kd.slice 25 (Kd.int .u32)).C w A1 (rd_T27 xs i).f1.length (rd_T27 xs i).f1 := by
 obtain ⟨ad, c, e, _, hK, hc0⟩ := Kd.C_get h z27 i h0 h1
 have hc : ∀ j u, c[j]? = some u → w.cell? (ad.add (i.toNat * 2 + j)) = some u := hc0
 obtain ⟨A1, c1, rfl, l1, g1⟩ := k27_open hK
 exact ⟨ad, A1, c1, e, hc 0 _ rfl, by rw [← add_field _ _ 1 (by omega)]; exact hc 1 _ rfl, l1, g1⟩

/-! #### struct type 39 -/
structure S39 where
 f0 : Int
 f1 : Int
 f2 : (List Int)
def z39 : S39 := ⟨(0 : Int), (0 : Int), ([] : List Int)⟩
def k39 : Kd S39 := Kd.iso (Kd.pair (Kd.int .i64) (Kd.pair (Kd.int .i64) (Kd.slice 5 (Kd.int .u8)))) (fun x : S39 => (x.f0, x.f1, x.f2))
theorem k39_heap : Kd.Heap k39 := Kd.heap_iso _ (Kd.heap_pair (Kd.heap_int .i64) (Kd.heap_pair (Kd.heap_int .i64) (Kd.heap_slice 5 (Kd.heap_int .u8))))
theorem k39_open {w : World} {x : S39} {cs : List Value} (h : k39.K w x cs) : ∃ A2 c2, cs = [.int .i64 x.f0, .int .i64 x.f1, .slice A2 x.f2.length c2] ∧ x.f2.length ≤ c2 ∧ (Kd.int .u8).C w A2 x.f2.length x.f2 := by
 obtain ⟨_, _, rfl, rfl, ⟨_, _, rfl, rfl, ⟨A2, c2, rfl, l2, g2⟩⟩⟩ := h
 exact ⟨A2, c2, rfl, l2, g2⟩
theorem k39_openM {w : World} {base : Nat} {ok : Nat → Prop} {x : S39} {cs : List Value} (h : k39.M w base ok x cs) : ∃ v2, cs = [.int .i64 x.f0, .int .i64 x.f1, v2] ∧ (Kd.int .u8).R 5 w base ok v2 x.f2 := by
 obtain ⟨_, _, rfl, rfl, ⟨_, _, rfl, rfl, ⟨v2, rfl, g2⟩⟩⟩ := h
 exact ⟨v2, rfl, g2⟩
theorem k39_mk (w : World) (x : S39) {A2 : Option Addr} {c2 : Nat} (l2 : x.f2.length ≤ c2) (g2 : (Kd.int .u8).C w A2 x.f2.length x.f2) : k39.K w x [.int .i64 x.f0, .int .i64 x.f1, .slice A2 x.f2.length c2] := ⟨[.int .i64 x.f0], [.int .i64 x.f1, .slice A2 x.f2.length c2], rfl, rfl, ⟨[.int .i64 x.f1], [.slice A2 x.f2.length c2], rfl, rfl, ⟨A2, c2, rfl, l2, g2⟩⟩⟩
theorem k39_mkM (w : World) (base : Nat) (ok : Nat → Prop) (x : S39) {v2 : Value} (g2 : (Kd.int .u8).R 5 w base ok v2 x.f2) : k39.M w base ok x [.int .i64 x.f0, .int .i64 x.f1, v2] := ⟨[.int .i64 x.f0], [.int .i64 x.f1, v2], rfl, rfl, ⟨[.int .i64 x.f1], [v2], rfl, rfl, ⟨v2, rfl, g2⟩⟩⟩
theorem k39_openF {W : World} {ok : Nat → Prop} {x : S39} {cs : List Value} (h : Kd.FK k39 W ok x cs) : ∃ A2 c2, cs = [.int .i64 x.f0, .int .i64 x.f1, .slice A2 x.f2.length c2] ∧ x.f2.length ≤ c2 ∧ Kd.F (Kd.int .u8) W ok A2 x.f2.length x.f2 := by
 obtain ⟨A2, c2, rfl, l2, _⟩ := k39_open (Kd.FK_now h)
 exact ⟨A2, c2, rfl, l2, (fun W' hW => by obtain ⟨A2_, c2_, he, l2_, g2_⟩ := k39_open (h W' hW); injection (Option.some.inj (show some (Value.slice A2 x.f2.length c2) = some (Value.slice A2_ x.f2.length c2_) from congrArg (fun l => l[2]?) he)) with ha_ _ _; rw [ha_]; exact g2_)⟩
theorem k39_mkF (W : World) (ok : Nat → Prop) (x : S39) {A2 : Option Addr} {c2 : Nat} (l2 : x.f2.length ≤ c2) (g2 : Kd.F (Kd.int .u8) W ok A2 x.f2.length x.f2) : Kd.FK k39 W ok x [.int .i64 x.f0, .int .i64 x.f1, .slice A2 x.f2.length c2] := fun W2 hW => k39_mk W2 x l2 (g2 W2 hW)
def rd_T39 (xs : List S39) (i : Int) : S39 := xs.getD i.toNat z39
theorem at_T39 {w : World} {A : Option Addr} {n : Nat} {xs : List S39} (h : Kd.C k39 w A n xs) (i : Int) (h0 : 0 ≤ i) (h1 : i < n) : ∃ ad A2 c2, A = some ad ∧ w.cell? (ad.add (i.toNat * 3)) = some (.int .i64 (rd_T39 xs i).f0) ∧ w.cell? ⟨(ad.add (i.toNat * 3)).block, (ad.add (i.toNat * 3)).off + 1, none⟩ = some (.int .i64 (rd_T39 xs i).f1) ∧ w.cell? ⟨(ad.add (i.toNat * 3)).block, (ad.add (i.toNat * 3)).off + 2, none⟩ = some (.slice A2 (rd_T39 xs i).f2.length c2) ∧ (rd_T39 xs i).f2.length ≤ c2 ∧ (Kd.int .u8).C w A2 (rd_T39 xs i).f2.length (rd_T39 xs i).f2 := by
 obtain ⟨ad, c, e, _, hK, hc0⟩ := Kd.C_get h z39 i h0 h1
 have hc : ∀ j u, c[j]? = some u → w.cell? (ad.add (i.toNat * 3 + j)) = some u := hc0
 obtain ⟨A2, c2, rfl, l2, g2⟩ := k39_open hK
 exact ⟨ad, A2, c2, e, hc 0 _ rfl, by rw [← add_field _ _ 1 (by omega)]; exact hc 1 _ rfl, by rw [← add_field _ _ 2 (by omega)]; exact hc 2 _ rfl, l2, g2⟩

/-! #### struct type 119 -/
structure S119 where
 f0 : Int
 f1 : (List Int)
def z119 : S119 := ⟨(0 : Int), ([] : List Int)⟩
def k119 : Kd S119 := Kd.iso (Kd.pair (Kd.int .u8) (Kd.slice 5 (Kd.int .u8))) (fun x : S119 => (x.f0, x.f1))
theorem k119_heap : Kd.Heap k119 := Kd.heap_iso _ (Kd.heap_pair (Kd.heap_int .u8) (Kd.heap_slice 5 (Kd.heap_int .u8)))
theorem k119_open {w : World} {x : S119} {cs : List Value} (h : k119.K w x cs) : ∃ A1 c1, cs = [.int .u8 x.f0, .slice A1 x.f1.length c1] ∧ x.f1.length ≤ c1 ∧ (Kd.int .u8).C w A1 x.f1.length x.f1 := by
 obtain ⟨_, _, rfl, rfl, ⟨A1, c1, rfl, l1, g1⟩⟩ := h
 exact ⟨A1, c1, rfl, l1, g1⟩
theorem k119_openM {w : World} {base : Nat} {ok : Nat → Prop} {x : S119} {cs : List Value} (h : k119.M w base ok x cs) : ∃ v1, cs = [.int .u8 x.f0, v1] ∧ (Kd.int .u8).R 5 w base ok v1 x.f1 := by
 obtain ⟨_, _, rfl, rfl, ⟨v1, rfl, g1⟩⟩ := h
 exact ⟨v1, rfl, g1⟩
theorem k119_mk (w : World) (x : S119) {A1 : Option Addr} {c1 : Nat} (l1 : x.f1.length ≤ c1) (g1 : (Kd.int .u8).C w A1 x.f1.length x.f1) : k119.K w x [.int .u8 x.f0, .slice A1 x.f1.length c1] := ⟨[.int .u8 x.f0], [.slice A1 x.f1.length c1], rfl, rfl, ⟨A1, c1, rfl, l1, g1⟩⟩
theorem k119_mkM (w : World) (base : Nat) (ok : Nat → Prop) (x : S119) {v1 : Value} (g1 : (Kd.int .u8).R 5 w base ok v1 x.f1) : k119.M w base ok x [.int .u8 x.f0, v1] := ⟨[.int .u8 x.f0], [v1], rfl, rfl, ⟨v1, rfl, g1⟩⟩
theorem k119_openF {W : World} {ok : Nat → Prop} {x : S119} {cs : List Value} (h : Kd.FK k119 W ok x cs) : ∃ A1 c1, cs = [.int .u8 x.f0, .slice A1 x.f1.length c1] ∧ x.f1.length ≤ c1 ∧ Kd.F (Kd.int .u8) W ok A1 x.f1.length x.f1 := by
 obtain ⟨A1, c1, rfl, l1, _⟩ := k119_open (Kd.FK_now h)
 exact ⟨A1, c1, rfl, l1, (fun W' hW => by obtain ⟨A1_, c1_, he, l1_, g1_⟩ := k119_open (h W' hW); injection (Option.some.inj (show some (Value.slice A1 x.f1.length c1) = some (Value.slice A1_ x.f1.length c1_) from congrArg (fun l => l[1]?) he)) with ha_ _ _; rw [ha_]; exact g1_)⟩
theorem k119_mkF (W : World) (ok : Nat → Prop) (x : S119) {A1 : Option Addr} {c1 : Nat} (l1 : x.f1.length ≤ c1) (g1 : Kd.F (Kd.int .u8) W ok A1 x.f1.length x.f1) : Kd.FK k119 W ok x [.int .u8 x.f0, .slice A1 x.f1.length c1] := fun W2 hW => k119_mk W2 x l1 (g1 W2 hW)
def rd_T119 (xs : List S119) (i : Int) : S119 := xs.getD i.toNat z119
theorem at_T119 {w : World} {A : Option Addr} {n : Nat} {xs : List S119} (h : Kd.C k119 w A n xs) (i : Int) (h0 : 0 ≤ i) (h1 : i < n) : ∃ ad A1 c1, A = some ad ∧ w.cell? (ad.add (i.toNat * 2)) = some (.int .u8 (rd_T119 xs i).f0) ∧ w.cell? ⟨(ad.add (i.toNat * 2)).block, (ad.add (i.toNat * 2)).off + 1, none⟩ = some (.slice A1 (rd_T119 xs i).f1.length c1) ∧ (rd_T119 xs i).f1.length ≤ c1 ∧ (Kd.int .u8).C w A1 (rd_T119 xs i).f1.length (rd_T119 xs i).f1 := by
 obtain ⟨ad, c, e, _, hK, hc0⟩ := Kd.C_get h z119 i h0 h1
 have hc : ∀ j u, c[j]? = some u → w.cell? (ad.add (i.toNat * 2 + j)) = some u := hc0
 obtain ⟨A1, c1, rfl, l1, g1⟩ := k119_open hK
 exact ⟨ad, A1, c1, e, hc 0 _ rfl, by rw [← add_field _ _ 1 (by omega)]; exact hc 1 _ rfl, l1, g1⟩

/-! #### struct type 121 -/
structure S121 where
 f0 : Int
 f1 : Int
 f2 : S119
def z121 : S121 := ⟨(0 : Int), (0 : Int), z119⟩
def k121 : Kd S121 := Kd.iso (Kd.pair (Kd.int .i64) (Kd.pair (Kd.int .i64) k119)) (fun x : S121 => (x.f0, x.f1, x.f2))
theorem k121_heap : Kd.Heap k121 := Kd.heap_iso _ (Kd.heap_pair (Kd.heap_int .i64) (Kd.heap_pair (Kd.heap_int .i64) k119_heap))
theorem k121_open {w : World} {x : S121} {cs : List Value} (h : k121.K w x cs) : ∃ A3 c3, cs = [.int .i64 x.f0, .int .i64 x.f1, .int .u8 x.f2.f0, .slice A3 x.f2.f1.length c3] ∧ x.f2.f1.length ≤ c3 ∧ (Kd.int .u8).C w A3 x.f2.f1.length x.f2.f1 := by
 obtain ⟨_, _, rfl, rfl, ⟨_, _, rfl, rfl, s2⟩⟩ := h
 obtain ⟨A3, c3, rfl, l3, g3⟩ := k119_open s2
 exact ⟨A3, c3, rfl, l3, g3⟩
theorem k121_openM {w : World} {base : Nat} {ok : Nat → Prop} {x : S121} {cs : List Value} (h : k121.M w base ok x cs) : ∃ v3, cs = [.int .i64 x.f0, .int .i64 x.f1, .int .u8 x.f2.f0, v3] ∧ (Kd.int .u8).R 5 w base ok v3 x.f2.f1 := by
 obtain ⟨_, _, rfl, rfl, ⟨_, _, rfl, rfl, s2⟩⟩ := h
 obtain ⟨v3, rfl, g3⟩ := k119_openM s2
 exact ⟨v3, rfl, g3⟩
theorem k121_mk (w : World) (x : S121) {A3 : Option Addr} {c3 : Nat} (l3 : x.f2.f1.length ≤ c3) (g3 : (Kd.int .u8).C w A3 x.f2.f1.length x.f2.f1) : k121.K w x [.int .i64 x.f0, .int .i64 x.f1, .int .u8 x.f2.f0, .slice A3 x.f2.f1.length c3] := ⟨[.int .i64 x.f0], [.int .i64 x.f1, .int .u8 x.f2.f0, .slice A3 x.f2.f1.length c3], rfl, rfl, ⟨[.int .i64 x.f1], [.int .u8 x.f2.f0, .slice A3 x.f2.f1.length c3], rfl, rfl, (k119_mk w x.f2 l3 g3)⟩⟩
theorem k121_mkM (w : World) (base : Nat) (ok : Nat → Prop) (x : S121) {v3 : Value} (g3 : (Kd.int .u8).R 5 w base ok v3 x.f2.f1) : k121.M w base ok x [.int .i64 x.f0, .int .i64 x.f1, .int .u8 x.f2.f0, v3] := ⟨[.int .i64 x.f0], [.int .i64 x.f1, .int .u8 x.f2.f0, v3], rfl, rfl, ⟨[.int .i64 x.f1], [.int .u8 x.f2.f0, v3], rfl, rfl, (k119_mkM w base ok x.f2 g3)⟩⟩
theorem k121_openF {W : World} {ok : Nat → Prop} {x : S121} {cs : List Value} (h : Kd.FK k121 W ok x cs) : ∃ A3 c3, cs = [.int .i64 x.f0, .int .i64 x.f1, .int .u8 x.f2.f0, .slice A3 x.f2.f1.length c3] ∧ x.f2.f1.length ≤ c3 ∧ Kd.F (Kd.int .u8) W ok A3 x.f2.f1.length x.f2.f1 := by
 obtain ⟨A3, c3, rfl, l3, _⟩ := k121_open (Kd.FK_now h)
 exact ⟨A3, c3, rfl, l3, (fun W' hW => by obtain ⟨A3_, c3_, he, l3_, g3_⟩ := k121_open (h W' hW); injection (Option.some.inj (show some (Value.slice A3 x.f2.f1.length c3) = some (Value.slice A3_ x.f2.f1.length c3_) from congrArg (fun l => l[3]?) he)) with ha_ _ _; rw [ha_]; exact g3_)⟩
theorem k121_mkF (W : World) (ok : Nat → Prop) (x : S121) {A3 : Option Addr} {c3 : Nat} (l3 : x.f2.f1.length ≤ c3) (g3 : Kd.F (Kd.int .u8) W ok A3 x.f2.f1.length x.f2.f1) : Kd.FK k121 W ok x [.int .i64 x.f0, .int .i64 x.f1, .int .u8 x.f2.f0, .slice A3 x.f2.f1.length c3] := fun W2 hW => k121_mk W2 x l3 (g3 W2 hW)
def rd_T121 (xs : List S121) (i : Int) : S121 := xs.getD i.toNat z121
theorem at_T121 {w : World} {A : Option Addr} {n : Nat} {xs : List S121} (h : Kd.C k121 w A n xs) (i : Int) (h0 : 0 ≤ i) (h1 : i < n) : ∃ ad A3 c3, A = some ad ∧ w.cell? (ad.add (i.toNat * 4)) = some (.int .i64 (rd_T121 xs i).f0) ∧ w.cell? ⟨(ad.add (i.toNat * 4)).block, (ad.add (i.toNat * 4)).off + 1, none⟩ = some (.int .i64 (rd_T121 xs i).f1) ∧ w.cell? ⟨(ad.add (i.toNat * 4)).block, (ad.add (i.toNat * 4)).off + 2, none⟩ = some (.int .u8 (rd_T121 xs i).f2.f0) ∧ w.cell? ⟨(ad.add (i.toNat * 4)).block, (ad.add (i.toNat * 4)).off + 3, none⟩ = some (.slice A3 (rd_T121 xs i).f2.f1.length c3) ∧ (rd_T121 xs i).f2.f1.length ≤ c3 ∧ (Kd.int .u8).C w A3 (rd_T121 xs i).f2.f1.length (rd_T121 xs i).f2.f1 := by
 obtain ⟨ad, c, e, _, hK, hc0⟩ := Kd.C_get h z121 i h0 h1
 have hc : ∀ j u, c[j]? = some u → w.cell? (ad.add (i.toNat * 4 + j)) = some u := hc0
 obtain ⟨A3, c3, rfl, l3, g3⟩ := k121_open hK
 exact ⟨ad, A3, c3, e, hc 0 _ rfl, by rw [← add_field _ _ 1 (by omega)]; exact hc 1 _ rfl, by rw [← add_field _ _ 2 (by omega)]; exact hc 2 _ rfl, by rw [← add_field _ _ 3 (by omega)]; exact hc 3 _ rfl, l3, g3⟩

/-! #### struct type 63 -/
structure S63 where
 f0 : Int
 f1 : Int
def z63 : S63 := ⟨(0 : Int), (0 : Int)⟩
def k63 : Kd S63 := Kd.iso (Kd.pair (Kd.int .i64) (Kd.int .i64)) (fun x : S63 => (x.f0, x.f1))
theorem k63_heap : Kd.Heap k63 := Kd.heap_iso _ (Kd.heap_pair (Kd.heap_int .i64) (Kd.heap_int .i64))
theorem k63_open {w : World} {x : S63} {cs : List Value} (h : k63.K w x cs) : cs = [.int .i64 x.f0, .int .i64 x.f1] := by
 obtain ⟨_, _, rfl, rfl, rfl⟩ := h
 exact rfl
theorem k63_openM {w : World} {base : Nat} {ok : Nat → Prop} {x : S63} {cs : List Value} (h : k63.M w base ok x cs) : cs = [.int .i64 x.f0, .int .i64 x.f1] := by
 obtain ⟨_, _, rfl, rfl, rfl⟩ := h
 exact rfl
theorem k63_mk (w : World) (x : S63)  : k63.K w x [.int .i64 x.f0, .int .i64 x.f1] := ⟨[.int .i64 x.f0], [.int .i64 x.f1], rfl, rfl, rfl⟩
theorem k63_mkM (w : World) (base : Nat) (ok : Nat → Prop) (x : S63)  : k63.M w base ok x [.int .i64 x.f0, .int .i64 x.f1] := ⟨[.int .i64 x.f0], [.int .i64 x.f1], rfl, rfl, rfl⟩
theorem k63_mkF (W : World) (ok : Nat → Prop) (x : S63) : Kd.FK k63 W ok x [.int .i64 x.f0, .int .i64 x.f1] := fun W2 _ => k63_mk W2 x
def rd_T63 (xs : List S63) (i : Int) : S63 := xs.getD i.toNat z63
theorem at_T63 {w : World} {A : Option Addr} {n : Nat} {xs : List S63} (h : Kd.C k63 w A n xs) (i : Int) (h0 : 0 ≤ i) (h1 : i < n) : ∃ ad , A = some ad ∧ w.cell? (ad.add (i.toNat * 2)) = some (.int .i64 (rd_T63 xs i).f0) ∧ w.cell? ⟨(ad.add (i.toNat * 2)).block, (ad.add (i.toNat * 2)).off + 1, none⟩ = some (.int .i64 (rd_T63 xs i).f1) := by
 obtain ⟨ad, c, e, _, hK, hc0⟩ := Kd.C_get h z63 i h0 h1
 have hc : ∀ j u, c[j]? = some u → w.cell? (ad.add (i.toNat * 2 + j)) = some u := hc0
 obtain rfl := k63_open hK
 exact ⟨ad, e, hc 0 _ rfl, by rw [← add_field _ _ 1 (by omega)]; exact hc 1 _ rfl⟩

def rd_L14 (xs : List (List S39)) (i : Int) : (List S39) := xs.getD i.toNat ([] : List S39)
theorem at_L14 {w : World} {A : Option Addr} {n : Nat} {xs : List (List S39)} (h : Kd.C (Kd.slice 39 k39) w A n xs) (i : Int) (h0 : 0 ≤ i) (h1 : i < n) : ∃ ad A0 c0, A = some ad ∧ w.cell? (ad.add i.toNat) = some (.slice A0 (rd_L14 xs i).length c0) ∧ (rd_L14 xs i).length ≤ c0 ∧ k39.C w A0 (rd_L14 xs i).length (rd_L14 xs i) := by
 obtain ⟨ad, c, e, _, hK, hc0⟩ := Kd.C_get h ([] : List S39) i h0 h1
 have hc : ∀ j u, c[j]? = some u → w.cell? (ad.add (i.toNat * 1 + j)) = some u := hc0
 obtain ⟨A0, c0, rfl, l0, g0⟩ := hK
 exact ⟨ad, A0, c0, e, by have hq := hc 0 _ rfl; rwa [Nat.mul_one, Nat.add_zero] at hq, l0, g0⟩

def rd_L15 (xs : List (List S121)) (i : Int) : (List S121) := xs.getD i.toNat ([] : List S121)
theorem at_L15 {w : World} {A : Option Addr} {n : Nat} {xs : List (List S121)} (h : Kd.C (Kd.slice 121 k121) w A n xs) (i : Int) (h0 : 0 ≤ i) (h1 : i < n) : ∃ ad A0 c0, A = some ad ∧ w.cell? (ad.add i.toNat) = some (.slice A0 (rd_L15 xs i).length c0) ∧ (rd_L15 xs i).length ≤ c0 ∧ k121.C w A0 (rd_L15 xs i).length (rd_L15 xs i) := by
 obtain ⟨ad, c, e, _, hK, hc0⟩ := Kd.C_get h ([] : List S121) i h0 h1
 have hc : ∀ j u, c[j]? = some u → w.cell? (ad.add (i.toNat * 1 + j)) = some u := hc0
 obtain ⟨A0, c0, rfl, l0, g0⟩ := hK
 exact ⟨ad, A0, c0, e, by have hq := hc 0 _ rfl; rwa [Nat.mul_one, Nat.add_zero] at hq, l0, g0⟩

def rd_L16 (xs : List (List Int)) (i : Int) : (List Int) := xs.getD i.toNat ([] : List Int)
theorem at_L16 {w : World} {A : Option Addr} {n : Nat} {xs : List (List Int)} (h : Kd.C (Kd.slice 3 (Kd.int .i64)) w A n xs) (i : Int) (h0 : 0 ≤ i) (h1 : i < n) : ∃ ad A0 c0, A = some ad ∧ w.cell? (ad.add i.toNat) = some (.slice A0 (rd_L16 xs i).length c0) ∧ (rd_L16 xs i).length ≤ c0 ∧ (Kd.int .i64).C w A0 (rd_L16 xs i).length (rd_L16 xs i) := by
 obtain ⟨ad, c, e, _, hK, hc0⟩ := Kd.C_get h ([] : List Int) i h0 h1
 have hc : ∀ j u, c[j]? = some u → w.cell? (ad.add (i.toNat * 1 + j)) = some u := hc0
 obtain ⟨A0, c0, rfl, l0, g0⟩ := hK
 exact ⟨ad, A0, c0, e, by have hq := hc 0 _ rfl; rwa [Nat.mul_one, Nat.add_zero] at hq, l0, g0⟩

/-! #### struct type 67 -/
structure S67 where
 f0 : Int
 f1 : (List Int)
def z67 : S67 := ⟨(0 : Int), ([] : List Int)⟩
def k67 : Kd S67 := Kd.iso (Kd.pair (Kd.int .i64) (Kd.slice 3 (Kd.int .i64))) (fun x : S67 => (x.f0, x.f1))
theorem k67_heap : Kd.Heap k67 := Kd.heap_iso _ (Kd.heap_pair (Kd.heap_int .i64) (Kd.heap_slice 3 (Kd.heap_int .i64)))
theorem k67_open {w : World} {x : S67} {cs : List Value} (h : k67.K w x cs) : ∃ A1 c1, cs = [.int .i64 x.f0, .slice A1 x.f1.length c1] ∧ x.f1.length ≤ c1 ∧ (Kd.int .i64).C w A1 x.f1.length x.f1 := by
 obtain ⟨_, _, rfl, rfl, ⟨A1, c1, rfl, l1, g1⟩⟩ := h
 exact ⟨A1, c1, rfl, l1, g1⟩
theorem k67_openM {w : World} {base : Nat} {ok : Nat → Prop} {x : S67} {cs : List Value} (h : k67.M w base ok x cs) : ∃ v1, cs = [.int .i64 x.f0, v1] ∧ (Kd.int .i64).R 3 w base ok v1 x.f1 := by
 obtain ⟨_, _, rfl, rfl, ⟨v1, rfl, g1⟩⟩ := h
 exact ⟨v1, rfl, g1⟩
theorem k67_mk (w : World) (x : S67) {A1 : Option Addr} {c1 : Nat} (l1 : x.f1.length ≤ c1) (g1 : (Kd.int .i64).C w A1 x.f1.length x.f1) : k67.K w x [.int .i64 x.f0, .slice A1 x.f1.length c1] := ⟨[.int .i64 x.f0], [.slice A1 x.f1.length c1], rfl, rfl, ⟨A1, c1, rfl, l1, g1⟩⟩
theorem k67_mkM (w : World) (base : Nat) (ok : Nat → Prop) (x : S67) {v1 : Value} (g1 : (Kd.int .i64).R 3 w base ok v1 x.f1) : k67.M w base ok x [.int .i64 x.f0, v1] := ⟨[.int .i64 x.f0], [v1], rfl, rfl, ⟨v1, rfl, g1⟩⟩
theorem k67_openF {W : World} {ok : Nat → Prop} {x : S67} {cs : List Value} (h : Kd.FK k67 W ok x cs) : ∃ A1 c1, cs = [.int .i64 x.f0, .slice A1 x.f1.length c1] ∧ x.f1.length ≤ c1 ∧ Kd.F (Kd.int .i64) W ok A1 x.f1.length x.f1 := by
 obtain ⟨A1, c1, rfl, l1, _⟩ := k67_open (Kd.FK_now h)
 exact ⟨A1, c1, rfl, l1, (fun W' hW => by obtain ⟨A1_, c1_, he, l1_, g1_⟩ := k67_open (h W' hW); injection (Option.some.inj (show some (Value.slice A1 x.f1.length c1) = some (Value.slice A1_ x.f1.length c1_) from congrArg (fun l => l[1]?) he)) with ha_ _ _; rw [ha_]; exact g1_)⟩
theorem k67_mkF (W : World) (ok : Nat → Prop) (x : S67) {A1 : Option Addr} {c1 : Nat} (l1 : x.f1.length ≤ c1) (g1 : Kd.F (Kd.int .i64) W ok A1 x.f1.length x.f1) : Kd.FK k67 W ok x [.int .i64 x.f0, .slice A1 x.f1.length c1] := fun W2 hW => k67_mk W2 x l1 (g1 W2 hW)
def rd_T67 (xs : List S67) (i : Int) : S67 := xs.getD i.toNat z67
theorem at_T67 {w : World} {A : Option Addr} {n : Nat} {xs : List S67} (h : Kd.C k67 w A n xs) (i : Int) (h0 : 0 ≤ i) (h1 : i < n) : ∃ ad A1 c1, A = some ad ∧ w.cell? (ad.add (i.toNat * 2)) = some (.int .i64 (rd_T67 xs i).f0) ∧ w.cell? ⟨(ad.add (i.toNat * 2)).block, (ad.add (i.toNat * 2)).off + 1, none⟩ = some (.slice A1 (rd_T67 xs i).f1.length c1) ∧ (rd_T67 xs i).f1.length ≤ c1 ∧ (Kd.int .i64).C w A1 (rd_T67 xs i).f1.length (rd_T67 xs i).f1 := by
 obtain ⟨ad, c, e, _, hK, hc0⟩ := Kd.C_get h z67 i h0 h1
 have hc : ∀ j u, c[j]? = some u → w.cell? (ad.add (i.toNat * 2 + j)) = some u := hc0
 obtain ⟨A1, c1, rfl, l1, g1⟩ := k67_open hK
 exact ⟨ad, A1, c1, e, hc 0 _ rfl, by rw [← add_field _ _ 1 (by omega)]; exact hc 1 _ rfl, l1, g1⟩

/-! #### struct type 69 -/
structure S69 where
 f0 : Int
 f1 : S63
 f2 : (List S39)
 f3 : (List S121)
 f4 : S67
def z69 : S69 := ⟨(0 : Int), z63, ([] : List S39), ([] : List S121), z67⟩
def k69 : Kd S69 := Kd.iso (Kd.pair (Kd.int .i64) (Kd.pair k63 (Kd.pair (Kd.slice 39 k39) (Kd.pair (Kd.slice 121 k121) k67)))) (fun x : S69 => (x.f0, x.f1, x.f2, x.f3, x.f4))
theorem k69_heap : Kd.Heap k69 := Kd.heap_iso _ (Kd.heap_pair (Kd.heap_int .i64) (Kd.heap_pair k63_heap (Kd.heap_pair (Kd.heap_slice 39 k39_heap) (Kd.heap_pair (Kd.heap_slice 121 k121_heap) k67_heap))))
theorem k69_open {w : World} {x : S69} {cs : List Value} (h : k69.K w x cs) : ∃ A3 c3 A4 c4 A6 c6, cs = [.int .i64 x.f0, .int .i64 x.f1.f0, .int .i64 x.f1.f1, .slice A3 x.f2.length c3, .slice A4 x.f3.length c4, .int .i64 x.f4.f0, .slice A6 x.f4.f1.length c6] ∧ x.f2.length ≤ c3 ∧ k39.C w A3 x.f2.length x.f2 ∧ x.f3.length ≤ c4 ∧ k121.C w A4 x.f3.length x.f3 ∧ x.f4.f1.length ≤ c6 ∧ (Kd.int .i64).C w A6 x.f4.f1.length x.f4.f1 := by
 obtain ⟨_, _, rfl, rfl, ⟨_, _, rfl, s1, ⟨_, _, rfl, ⟨A3, c3, rfl, l3, g3⟩, ⟨_, _, rfl, ⟨A4, c4, rfl, l4, g4⟩, s5⟩⟩⟩⟩ := h
 obtain rfl := k63_open s1
 obtain ⟨A6, c6, rfl, l6, g6⟩ := k67_open s5
 exact ⟨A3, c3, A4, c4, A6, c6, rfl, l3, g3, l4, g4, l6, g6⟩
theorem k69_openM {w : World} {base : Nat} {ok : Nat → Prop} {x : S69} {cs : List Value} (h : k69.M w base ok x cs) : ∃ v3 v4 v6, cs = [.int .i64 x.f0, .int .i64 x.f1.f0, .int .i64 x.f1.f1, v3, v4, .int .i64 x.f4.f0, v6] ∧ k39.R 39 w base ok v3 x.f2 ∧ k121.R 121 w base ok v4 x.f3 ∧ (Kd.int .i64).R 3 w base ok v6 x.f4.f1 := by
 obtain ⟨_, _, rfl, rfl, ⟨_, _, rfl, s1, ⟨_, _, rfl, ⟨v3, rfl, g3⟩, ⟨_, _, rfl, ⟨v4, rfl, g4⟩, s5⟩⟩⟩⟩ := h
 obtain rfl := k63_openM s1
 obtain ⟨v6, rfl, g6⟩ := k67_openM s5
 exact ⟨v3, v4, v6, rfl, g3, g4, g6⟩
theorem k69_mk (w : World) (x : S69) {A3 : Option Addr} {c3 : Nat} (l3 : x.f2.length ≤ c3) (g3 : k39.C w A3 x.f2.length x.f2) {A4 : Option Addr} {c4 : Nat} (l4 : x.f3.length ≤ c4) (g4 : k121.C w A4 x.f3.length x.f3) {A6 : Option Addr} {c6 : Nat} (l6 : x.f4.f1.length ≤ c6) (g6 : (Kd.int .i64).C w A6 x.f4.f1.length x.f4.f1) : k69.K w x [.int .i64 x.f0, .int .i64 x.f1.f0, .int .i64 x.f1.f1, .slice A3 x.f2.length c3, .slice A4 x.f3.length c4, .int .i64 x.f4.f0, .slice A6 x.f4.f1.length c6] := ⟨[.int .i64 x.f0], [.int .i64 x.f1.f0, .int .i64 x.f1.f1, .slice A3 x.f2.length c3, .slice A4 x.f3.length c4, .int .i64 x.f4.f0, .slice A6 x.f4.f1.length c6], rfl, rfl, ⟨[.int .i64 x.f1.f0, .int .i64 x.f1.f1], [.slice A3 x.f2.length c3, .slice A4 x.f3.length c4, .int .i64 x.f4.f0, .slice A6 x.f4.f1.length c6], rfl, (k63_mk w x.f1 ), ⟨[.slice A3 x.f2.length c3], [.slice A4 x.f3.length c4, .int .i64 x.f4.f0, .slice A6 x.f4.f1.length c6], rfl, ⟨A3, c3, rfl, l3, g3⟩, ⟨[.slice A4 x.f3.length c4], [.int .i64 x.f4.f0, .slice A6 x.f4.f1.length c6], rfl, ⟨A4, c4, rfl, l4, g4⟩, (k67_mk w x.f4 l6 g6)⟩⟩⟩⟩
theorem k69_mkM (w : World) (base : Nat) (ok : Nat → Prop) (x : S69) {v3 : Value} (g3 : k39.R 39 w base ok v3 x.f2) {v4 : Value} (g4 : k121.R 121 w base ok v4 x.f3) {v6 : Value} (g6 : (Kd.int .i64).R 3 w base ok v6 x.f4.f1) : k69.M w base ok x [.int .i64 x.f0, .int .i64 x.f1.f0, .int .i64 x.f1.f1, v3, v4, .int .i64 x.f4.f0, v6] := ⟨[.int .i64 x.f0], [.int .i64 x.f1.f0, .int .i64 x.f1.f1, v3, v4, .int .i64 x.f4.f0, v6], rfl, rfl, ⟨[.int .i64 x.f1.f0, .int .i64 x.f1.f1], [v3, v4, .int .i64 x.f4.f0, v6], rfl, (k63_mkM w base ok x.f1 ), ⟨[v3], [v4, .int .i64 x.f4.f0, v6], rfl, ⟨v3, rfl, g3⟩, ⟨[v4], [.int .i64 x.f4.f0, v6], rfl, ⟨v4, rfl, g4⟩, (k67_mkM w base ok x.f4 g6)⟩⟩⟩⟩
theorem k69_openF {W : World} {ok : Nat → Prop} {x : S69} {cs : List Value} (h : Kd.FK k69 W ok x cs) : ∃ A3 c3 A4 c4 A6 c6, cs = [.int .i64 x.f0, .int .i64 x.f1.f0, .int .i64 x.f1.f1, .slice A3 x.f2.length c3, .slice A4 x.f3.length c4, .int .i64 x.f4.f0, .slice A6 x.f4.f1.length c6] ∧ x.f2.length ≤ c3 ∧ Kd.F k39 W ok A3 x.f2.length x.f2 ∧ x.f3.length ≤ c4 ∧ Kd.F k121 W ok A4 x.f3.length x.f3 ∧ x.f4.f1.length ≤ c6 ∧ Kd.F (Kd.int .i64) W ok A6 x.f4.f1.length x.f4.f1 := by
 obtain ⟨A3, c3, A4, c4, A6, c6, rfl, l3, _, l4, _, l6, _⟩ := k69_open (Kd.FK_now h)
 exact ⟨A3, c3, A4, c4, A6, c6, rfl, l3, (fun W' hW => by obtain ⟨A3_, c3_, A4_, c4_, A6_, c6_, he, l3_, g3_, l4_, g4_, l6_, g6_⟩ := k69_open (h W' hW); injection (Option.some.inj (show some (Value.slice A3 x.f2.length c3) = some (Value.slice A3_ x.f2.length c3_) from congrArg (fun l => l[3]?) he)) with ha_ _ _; rw [ha_]; exact g3_), l4, (fun W' hW => by obtain ⟨A3_, c3_, A4_, c4_, A6_, c6_, he, l3_, g3_, l4_, g4_, l6_, g6_⟩ := k69_open (h W' hW); injection (Option.some.inj (show some (Value.slice A4 x.f3.length c4) = some (Value.slice A4_ x.f3.length c4_) from congrArg (fun l => l[4]?) he)) with ha_ _ _; rw [ha_]; exact g4_), l6, (fun W' hW => by obtain ⟨A3_, c3_, A4_, c4_, A6_, c6_, he, l3_, g3_, l4_, g4_, l6_, g6_⟩ := k69_open (h W' hW); injection (Option.some.inj (show some (Value.slice A6 x.f4.f1.length c6) = some (Value.slice A6_ x.f4.f1.length c6_) from congrArg (fun l => l[6]?) he)) with ha_ _ _; rw [ha_]; exact g6_)⟩
theorem k69_mkF (W : World) (ok : Nat → Prop) (x : S69) {A3 : Option Addr} {c3 : Nat} (l3 : x.f2.length ≤ c3) (g3 : Kd.F k39 W ok A3 x.f2.length x.f2) {A4 : Option Addr} {c4 : Nat} (l4 : x.f3.length ≤ c4) (g4 : Kd.F k121 W ok A4 x.f3.length x.f3) {A6 : Option Addr} {c6 : Nat} (l6 : x.f4.f1.length ≤ c6) (g6 : Kd.F (Kd.int .i64) W ok A6 x.f4.f1.length x.f4.f1) : Kd.FK k69 W ok x [.int .i64 x.f0, .int .i64 x.f1.f0, .int .i64 x.f1.f1, .slice A3 x.f2.length c3, .slice A4 x.f3.length c4, .int .i64 x.f4.f0, .slice A6 x.f4.f1.length c6] := fun W2 hW => k69_mk W2 x l3 (g3 W2 hW) l4 (g4 W2 hW) l6 (g6 W2 hW)
def rd_T69 (xs : List S69) (i : Int) : S69 := xs.getD i.toNat z69
theorem at_T69 {w : World} {A : Option Addr} {n : Nat} {xs : List S69} (h : Kd.C k69 w A n xs) (i : Int) (h0 : 0 ≤ i) (h1 : i < n) : ∃ ad A3 c3 A4 c4 A6 c6, A = some ad ∧ w.cell? (ad.add (i.toNat * 7)) = some (.int .i64 (rd_T69 xs i).f0) ∧ w.cell? ⟨(ad.add (i.toNat * 7)).block, (ad.add (i.toNat * 7)).off + 1, none⟩ = some (.int .i64 (rd_T69 xs i).f1.f0) ∧ w.cell? ⟨(ad.add (i.toNat * 7)).block, (ad.add (i.toNat * 7)).off + 2, none⟩ = some (.int .i64 (rd_T69 xs i).f1.f1) ∧ w.cell? ⟨(ad.add (i.toNat * 7)).block, (ad.add (i.toNat * 7)).off + 3, none⟩ = some (.slice A3 (rd_T69 xs i).f2.length c3) ∧ w.cell? ⟨(ad.add (i.toNat * 7)).block, (ad.add (i.toNat * 7)).off + 4, none⟩ = some (.slice A4 (rd_T69 xs i).f3.length c4) ∧ w.cell? ⟨(ad.add (i.toNat * 7)).block, (ad.add (i.toNat * 7)).off + 5, none⟩ = some (.int .i64 (rd_T69 xs i).f4.f0) ∧ w.cell? ⟨(ad.add (i.toNat * 7)).block, (ad.add (i.toNat * 7)).off + 6, none⟩ = some (.slice A6 (rd_T69 xs i).f4.f1.length c6) ∧ (rd_T69 xs i).f2.length ≤ c3 ∧ k39.C w A3 (rd_T69 xs i).f2.length (rd_T69 xs i).f2 ∧ (rd_T69 xs i).f3.length ≤ c4 ∧ k121.C w A4 (rd_T69 xs i).f3.length (rd_T69 xs i).f3 ∧ (rd_T69 xs i).f4.f1.length ≤ c6 ∧ (Kd.int .i64).C w A6 (rd_T69 xs i).f4.f1.length (rd_T69 xs i).f4.f1 := by
 obtain ⟨ad, c, e, _, hK, hc0⟩ := Kd.C_get h z69 i h0 h1
 have hc : ∀ j u, c[j]? = some u → w.cell? (ad.add (i.toNat * 7 + j)) = some u := hc0
 obtain ⟨A3, c3, A4, c4, A6, c6, rfl, l3, g3, l4, g4, l6, g6⟩ := k69_open hK
 exact ⟨ad, A3, c3, A4, c4, A6, c6, e, hc 0 _ rfl, by rw [← add_field _ _ 1 (by omega)]; exact hc 1 _ rfl, by rw [← add_field _ _ 2 (by omega)]; exact hc 2 _ rfl, by rw [← add_field _ _ 3 (by omega)]; exact hc 3 _ rfl, by rw [← add_field _ _ 4 (by omega)]; exact hc 4 _ rfl, by rw [← add_field _ _ 5 (by omega)]; exact hc 5 _ rfl, by rw [← add_field _ _ 6 (by omega)]; exact hc 6 _ rfl, l3, g3, l4, g4, l6, g6⟩

/-! ### words of this session's own -/
theorem ext_nil {α : Type} {d : Kd α} {w : World} {l : List α} (h : d.C w none l.length l) : l = [] := by
 rcases l with _ | ⟨x, l⟩
 ·rfl
 ·obtain ⟨ad, h1, _⟩ := h.2.2 (by simp)
  cases h1
section
variable {P : Program} {ops : Array Oper} {rest : List Oper} {o o2 : Oper} {a : Act} {Q : Exit → Act → World → Prop}
/-- A constant text as bytes, '[]byte("..")': a literal, and behind it the conversion to its own type, which marks the place behind its end. -/
theorem ext_litc {w0 W : World} (base t e : Nat) (hgd : o.guard = none) (hgd2 : o2.guard = none) {N : Tmp} (_hd : o.dst = some N) (xs : List Int)
  (ht : P.underlying t = some (.slice e)) (he : P.underlying e = some (.int .u8))
  (hrun : (execOp a.eval o).run P W = .ok (.value (.slice (some ⟨W.heap.size, 0, none⟩) xs.length xs.length)) (W.alloc (.cells (nums .u8 xs).toArray e)))
  (hrun2 : ∀ w2 w3, (convert t t (.slice (some ⟨W.heap.size, 0, none⟩) xs.length xs.length)).run P w2 = .ok (.slice (some ⟨W.heap.size, 0, none⟩) xs.length xs.length) w3 →
   (execOp (a.put o.dst (.slice (some ⟨W.heap.size, 0, none⟩) xs.length xs.length)).eval o2).run P w2 = .ok (.value (.slice (some ⟨W.heap.size, 0, none⟩) xs.length xs.length)) w3)
  (HB : Below base w0 W) (hbase : base ≤ W.heap.size) (hm : xs.length ≤ 9223372036854775807)
  (h : ∀ v1 w1, Kd.V (Kd.int .u8) e w1 base (fun k_ => W.heap.size ≤ k_) v1 xs → Below base w0 w1 → W.grownBy w1 none → (∃ b, v1.ownBlock = some b ∧ W.heap.size ≤ b) → wpList P ops Q rest ((a.put o.dst v1).put o2.dst v1) w1) :
  wpList P ops Q (o :: o2 :: rest) a W := by
 refine Kd.event_run hgd hrun ?_
 have hc := Lib.run_convert_bytes_const (P := P) W t e (nums .u8 xs).toArray xs.length xs.length ht he
 refine Kd.event_run hgd2 (hrun2 _ _ hc) ?_
 refine h _ _ ⟨_, _, rfl, Nat.le_refl _, fun W' hW' => ?_⟩ (HB.alloc hbase _) (World.grownBy_alloc W _ none) ⟨W.heap.size, by simp [Value.ownBlock], Nat.le_refl _⟩
 have hb : W'.heap[W.heap.size]? = some (.cells (nums .u8 xs).toArray e ((nums .u8 xs).toArray.size, (nums .u8 xs).toArray.size + 1)) := by
  rw [hW' W.heap.size (Nat.le_refl _) (by simp)]
  exact heap_alloc_new W _
 refine ⟨rfl, hm, fun _ => ⟨_, rfl, fun j p hj => ⟨[.int .u8 p], rfl, rfl, fun i u hi => ?_⟩⟩⟩
 obtain rfl : i = 0 := by
  rcases i with _ | i
  ·rfl
  ·simp at hi
 obtain rfl : Value.int .u8 p = u := by simpa using hi
 have hsz : (Kd.int .u8).sz = 1 := rfl
 rw [hsz, Nat.mul_one, Nat.add_zero, add_plain]
 have hn : (nums .u8 xs)[j]? = some (.int .u8 p) := by simp [nums, hj]
 simp [World.cell?, hb, hn]
end
theorem ext_reps_drewN {α : Type} {d : Kd α} {w : World} {n : Nat} {ok : Nat → Prop} {sz : Nat} {xs : List α} {inner : List Value} (h : Reps (Kd.FK d w ok) sz xs inner) : Reps (Kd.FK d (w.drewN n) ok) sz xs inner :=
 h.imp_ fun _ _ hp => Foot.step hp (fun _ _ _ => rfl)
theorem ext_reps_drew {α : Type} {d : Kd α} {w : World} {ok : Nat → Prop} {sz : Nat} {xs : List α} {inner : List Value} (h : Reps (Kd.FK d w ok) sz xs inner) : Reps (Kd.FK d w.drew ok) sz xs inner :=
 h.imp_ fun _ _ hp => Foot.step hp (fun _ _ _ => rfl)
theorem ext_reps_alloc {α : Type} {d : Kd α} {w : World} {o : Obj} {ok : Nat → Prop} {sz : Nat} {xs : List α} {inner : List Value} (h : Reps (Kd.FK d w ok) sz xs inner) : Reps (Kd.FK d (w.alloc o) ok) sz xs inner :=
 h.imp_ fun _ _ hp => Foot.step hp (fun k _ hk => (below_alloc (Below.refl w.heap.size w) o).block k hk)
theorem ext_rdn {α : Type} {R : α → List Value → Prop} {sz : Nat} {w : World} {A : Option Addr} {n m : Nat} {ps : List α} (h : n = m) (hr : ReadsRow R sz w A n ps) : ReadsRow R sz w A m ps := h ▸ hr
/-! ### short words: what stays, by a tactic of its own -/
theorem upK {p q : Prop} (a : p) (h : p → q := by intro h_; (with_reducible repeat (first | refine blk_drewN ?_ _ | refine blk_drew ?_ | refine blk_alloc ?_ _)); exact h_) : q := h a
theorem upV {p q : Prop} (a : p) (h : p → q := by intro h_; (with_reducible repeat (first | apply Kd.V_alloc | apply Kd.V_drewN | apply Kd.V_drew)); exact h_) : q := h a
theorem upR {p q : Prop} (a : p) (h : p → q := by intro h_; (with_reducible repeat (first | apply Kd.R_alloc | apply Kd.R_drewN | apply Kd.R_drew)); exact h_) : q := h a
theorem upC {p q : Prop} (a : p) (h : p → q := by intro h_; repeat (first | exact h_ | (with_reducible refine Kd.C_alloc ?_ _) | (with_reducible refine Kd.C_drewN ?_ _) | (with_reducible refine Kd.C_drew ?_))) : q := h a
theorem argA {q : Prop} (h : q := by (try simp only [List.map_toArray, List.map_cons, List.map_nil]); first | done | rfl | (simp only [List.length_drop, List.length_take]; rfl)) : q := h
theorem upB0 {p q : Prop} (a : p) (h : p → q := by intro h_; repeat (first | (with_reducible first | exact h_ | apply below_alloc | apply pw_below_drewN | apply below_drew1) | exact h_)) : q := h a
theorem upB1 {p q r0 : Prop} (a : p) (g0_ : r0) (h : p → r0 → q := by intro h_ g0_; repeat (first | (with_reducible first | exact h_ | apply below_alloc | apply pw_below_drewN | apply below_drew1 | refine below_set ?_ g0_) | exact h_)) : q := h a g0_
theorem upB2 {p q r0 r1 : Prop} (a : p) (g0_ : r0) (g1_ : r1) (h : p → r0 → r1 → q := by intro h_ g0_ g1_; repeat (first | (with_reducible first | exact h_ | apply below_alloc | apply pw_below_drewN | apply below_drew1 | refine below_set ?_ g0_ | refine below_set ?_ g1_) | exact h_)) : q := h a g0_ g1_
theorem upB3 {p q r0 r1 r2 : Prop} (a : p) (g0_ : r0) (g1_ : r1) (g2_ : r2) (h : p → r0 → r1 → r2 → q := by intro h_ g0_ g1_ g2_; repeat (first | (with_reducible first | exact h_ | apply below_alloc | apply pw_below_drewN | apply below_drew1 | refine below_set ?_ g0_ | refine below_set ?_ g1_ | refine below_set ?_ g2_) | exact h_)) : q := h a g0_ g1_ g2_
theorem upB4 {p q r0 r1 r2 r3 : Prop} (a : p) (g0_ : r0) (g1_ : r1) (g2_ : r2) (g3_ : r3) (h : p → r0 → r1 → r2 → r3 → q := by intro h_ g0_ g1_ g2_ g3_; repeat (first | (with_reducible first | exact h_ | apply below_alloc | apply pw_below_drewN | apply below_drew1 | refine below_set ?_ g0_ | refine below_set ?_ g1_ | refine below_set ?_ g2_ | refine below_set ?_ g3_) | exact h_)) : q := h a g0_ g1_ g2_ g3_
theorem upB5 {p q r0 r1 r2 r3 r4 : Prop} (a : p) (g0_ : r0) (g1_ : r1) (g2_ : r2) (g3_ : r3) (g4_ : r4) (h : p → r0 → r1 → r2 → r3 → r4 → q := by intro h_ g0_ g1_ g2_ g3_ g4_; repeat (first | (with_reducible first | exact h_ | apply below_alloc | apply pw_below_drewN | apply below_drew1 | refine below_set ?_ g0_ | refine below_set ?_ g1_ | refine below_set ?_ g2_ | refine below_set ?_ g3_ | refine below_set ?_ g4_) | exact h_)) : q := h a g0_ g1_ g2_ g3_ g4_
theorem upB6 {p q r0 r1 r2 r3 r4 r5 : Prop} (a : p) (g0_ : r0) (g1_ : r1) (g2_ : r2) (g3_ : r3) (g4_ : r4) (g5_ : r5) (h : p → r0 → r1 → r2 → r3 → r4 → r5 → q := by intro h_ g0_ g1_ g2_ g3_ g4_ g5_; repeat (first | (with_reducible first | exact h_ | apply below_alloc | apply pw_below_drewN | apply below_drew1 | refine below_set ?_ g0_ | refine below_set ?_ g1_ | refine below_set ?_ g2_ | refine below_set ?_ g3_ | refine below_set ?_ g4_ | refine below_set ?_ g5_) | exact h_)) : q := h a g0_ g1_ g2_ g3_ g4_ g5_
theorem cells1 {w : World} {g : Nat} {t : TypeId} {v0 : Value} (h : w.heap[g]? = some (.cells #[v0] t (0, 0))) : w.cell? ⟨g, 0, none⟩ = some v0 ∧ w.frozen? ⟨g, 0, none⟩ = false := ⟨blk_cell h 0, blk_frozen h 0⟩
theorem cells2 {w : World} {g : Nat} {t : TypeId} {v0 v1 : Value} (h : w.heap[g]? = some (.cells #[v0, v1] t (0, 0))) : w.cell? ⟨g, 0, none⟩ = some v0 ∧ w.cell? ⟨g, 1, none⟩ = some v1 ∧ w.frozen? ⟨g, 0, none⟩ = false ∧ w.frozen? ⟨g, 1, none⟩ = false := ⟨blk_cell h 0, blk_cell h 1, blk_frozen h 0, blk_frozen h 1⟩
theorem cells3 {w : World} {g : Nat} {t : TypeId} {v0 v1 v2 : Value} (h : w.heap[g]? = some (.cells #[v0, v1, v2] t (0, 0))) : w.cell? ⟨g, 0, none⟩ = some v0 ∧ w.cell? ⟨g, 1, none⟩ = some v1 ∧ w.cell? ⟨g, 2, none⟩ = some v2 ∧ w.frozen? ⟨g, 0, none⟩ = false ∧ w.frozen? ⟨g, 1, none⟩ = false ∧ w.frozen? ⟨g, 2, none⟩ = false := ⟨blk_cell h 0, blk_cell h 1, blk_cell h 2, blk_frozen h 0, blk_frozen h 1, blk_frozen h 2⟩
theorem cells4 {w : World} {g : Nat} {t : TypeId} {v0 v1 v2 v3 : Value} (h : w.heap[g]? = some (.cells #[v0, v1, v2, v3] t (0, 0))) : w.cell? ⟨g, 0, none⟩ = some v0 ∧ w.cell? ⟨g, 1, none⟩ = some v1 ∧ w.cell? ⟨g, 2, none⟩ = some v2 ∧ w.cell? ⟨g, 3, none⟩ = some v3 ∧ w.frozen? ⟨g, 0, none⟩ = false ∧ w.frozen? ⟨g, 1, none⟩ = false ∧ w.frozen? ⟨g, 2, none⟩ = false ∧ w.frozen? ⟨g, 3, none⟩ = false := ⟨blk_cell h 0, blk_cell h 1, blk_cell h 2, blk_cell h 3, blk_frozen h 0, blk_frozen h 1, blk_frozen h 2, blk_frozen h 3⟩
theorem cells5 {w : World} {g : Nat} {t : TypeId} {v0 v1 v2 v3 v4 : Value} (h : w.heap[g]? = some (.cells #[v0, v1, v2, v3, v4] t (0, 0))) : w.cell? ⟨g, 0, none⟩ = some v0 ∧ w.cell? ⟨g, 1, none⟩ = some v1 ∧ w.cell? ⟨g, 2, none⟩ = some v2 ∧ w.cell? ⟨g, 3, none⟩ = some v3 ∧ w.cell? ⟨g, 4, none⟩ = some v4 ∧ w.frozen? ⟨g, 0, none⟩ = false ∧ w.frozen? ⟨g, 1, none⟩ = false ∧ w.frozen? ⟨g, 2, none⟩ = false ∧ w.frozen? ⟨g, 3, none⟩ = false ∧ w.frozen? ⟨g, 4, none⟩ = false := ⟨blk_cell h 0, blk_cell h 1, blk_cell h 2, blk_cell h 3, blk_cell h 4, blk_frozen h 0, blk_frozen h 1, blk_frozen h 2, blk_frozen h 3, blk_frozen h 4⟩
theorem cells6 {w : World} {g : Nat} {t : TypeId} {v0 v1 v2 v3 v4 v5 : Value} (h : w.heap[g]? = some (.cells #[v0, v1, v2, v3, v4, v5] t (0, 0))) : w.cell? ⟨g, 0, none⟩ = some v0 ∧ w.cell? ⟨g, 1, none⟩ = some v1 ∧ w.cell? ⟨g, 2, none⟩ = some v2 ∧ w.cell? ⟨g, 3, none⟩ = some v3 ∧ w.cell? ⟨g, 4, none⟩ = some v4 ∧ w.cell? ⟨g, 5, none⟩ = some v5 ∧ w.frozen? ⟨g, 0, none⟩ = false ∧ w.frozen? ⟨g, 1, none⟩ = false ∧ w.frozen? ⟨g, 2, none⟩ = false ∧ w.frozen? ⟨g, 3, none⟩ = false ∧ w.frozen? ⟨g, 4, none⟩ = false ∧ w.frozen? ⟨g, 5, none⟩ = false := ⟨blk_cell h 0, blk_cell h 1, blk_cell h 2, blk_cell h 3, blk_cell h 4, blk_cell h 5, blk_frozen h 0, blk_frozen h 1, blk_frozen h 2, blk_frozen h 3, blk_frozen h 4, blk_frozen h 5⟩
theorem cells7 {w : World} {g : Nat} {t : TypeId} {v0 v1 v2 v3 v4 v5 v6 : Value} (h : w.heap[g]? = some (.cells #[v0, v1, v2, v3, v4, v5, v6] t (0, 0))) : w.cell? ⟨g, 0, none⟩ = some v0 ∧ w.cell? ⟨g, 1, none⟩ = some v1 ∧ w.cell? ⟨g, 2, none⟩ = some v2 ∧ w.cell? ⟨g, 3, none⟩ = some v3 ∧ w.cell? ⟨g, 4, none⟩ = some v4 ∧ w.cell? ⟨g, 5, none⟩ = some v5 ∧ w.cell? ⟨g, 6, none⟩ = some v6 ∧ w.frozen? ⟨g, 0, none⟩ = false ∧ w.frozen? ⟨g, 1, none⟩ = false ∧ w.frozen? ⟨g, 2, none⟩ = false ∧ w.frozen? ⟨g, 3, none⟩ = false ∧ w.frozen? ⟨g, 4, none⟩ = false ∧ w.frozen? ⟨g, 5, none⟩ = false ∧ w.frozen? ⟨g, 6, none⟩ = false := ⟨blk_cell h 0, blk_cell h 1, blk_cell h 2, blk_cell h 3, blk_cell h 4, blk_cell h 5, blk_cell h 6, blk_frozen h 0, blk_frozen h 1, blk_frozen h 2, blk_frozen h 3, blk_frozen h 4, blk_frozen h 5, blk_frozen h 6⟩
theorem cells8 {w : World} {g : Nat} {t : TypeId} {v0 v1 v2 v3 v4 v5 v6 v7 : Value} (h : w.heap[g]? = some (.cells #[v0, v1, v2, v3, v4, v5, v6, v7] t (0, 0))) : w.cell? ⟨g, 0, none⟩ = some v0 ∧ w.cell? ⟨g, 1, none⟩ = some v1 ∧ w.cell? ⟨g, 2, none⟩ = some v2 ∧ w.cell? ⟨g, 3, none⟩ = some v3 ∧ w.cell? ⟨g, 4, none⟩ = some v4 ∧ w.cell? ⟨g, 5, none⟩ = some v5 ∧ w.cell? ⟨g, 6, none⟩ = some v6 ∧ w.cell? ⟨g, 7, none⟩ = some v7 ∧ w.frozen? ⟨g, 0, none⟩ = false ∧ w.frozen? ⟨g, 1, none⟩ = false ∧ w.frozen? ⟨g, 2, none⟩ = false ∧ w.frozen? ⟨g, 3, none⟩ = false ∧ w.frozen? ⟨g, 4, none⟩ = false ∧ w.frozen? ⟨g, 5, none⟩ = false ∧ w.frozen? ⟨g, 6, none⟩ = false ∧ w.frozen? ⟨g, 7, none⟩ = false := ⟨blk_cell h 0, blk_cell h 1, blk_cell h 2, blk_cell h 3, blk_cell h 4, blk_cell h 5, blk_cell h 6, blk_cell h 7, blk_frozen h 0, blk_frozen h 1, blk_frozen h 2, blk_frozen h 3, blk_frozen h 4, blk_frozen h 5, blk_frozen h 6, blk_frozen h 7⟩
/-! ### stores into another block -/
section
variable {α : Type} {d : Kd α} {e : TypeId} {w : World} {base : Nat} {ok : Nat → Prop} {v : Value} {xs : List α} {g : Nat}
theorem garR1 (h : d.R e w base (fun k => ok k ∧ k ≠ g) v xs) (j0 : Nat) (u0 : Value) : d.R e (w.setCell ⟨g, j0, none⟩ u0) base (fun k => ok k ∧ k ≠ g) v xs := (Kd.R_far (p := ⟨g, j0, none⟩) h (fun _ hk => hk.2) u0)
theorem farR1 (h : d.R e w base (fun k => ok k ∧ k ≠ g) v xs) (j0 : Nat) (u0 : Value) : d.R e (w.setCell ⟨g, j0, none⟩ u0) base ok v xs := Kd.R_mono (garR1 h j0 u0) (fun _ h_ => h_.1)
theorem garR2 (h : d.R e w base (fun k => ok k ∧ k ≠ g) v xs) (j0 : Nat) (u0 : Value) (j1 : Nat) (u1 : Value) : d.R e ((w.setCell ⟨g, j0, none⟩ u0).setCell ⟨g, j1, none⟩ u1) base (fun k => ok k ∧ k ≠ g) v xs := (Kd.R_far (p := ⟨g, j1, none⟩) (Kd.R_far (p := ⟨g, j0, none⟩) h (fun _ hk => hk.2) u0) (fun _ hk => hk.2) u1)
theorem farR2 (h : d.R e w base (fun k => ok k ∧ k ≠ g) v xs) (j0 : Nat) (u0 : Value) (j1 : Nat) (u1 : Value) : d.R e ((w.setCell ⟨g, j0, none⟩ u0).setCell ⟨g, j1, none⟩ u1) base ok v xs := Kd.R_mono (garR2 h j0 u0 j1 u1) (fun _ h_ => h_.1)
theorem garR3 (h : d.R e w base (fun k => ok k ∧ k ≠ g) v xs) (j0 : Nat) (u0 : Value) (j1 : Nat) (u1 : Value) (j2 : Nat) (u2 : Value) : d.R e (((w.setCell ⟨g, j0, none⟩ u0).setCell ⟨g, j1, none⟩ u1).setCell ⟨g, j2, none⟩ u2) base (fun k => ok k ∧ k ≠ g) v xs := (Kd.R_far (p := ⟨g, j2, none⟩) (Kd.R_far (p := ⟨g, j1, none⟩) (Kd.R_far (p := ⟨g, j0, none⟩) h (fun _ hk => hk.2) u0) (fun _ hk => hk.2) u1) (fun _ hk => hk.2) u2)
theorem farR3 (h : d.R e w base (fun k => ok k ∧ k ≠ g) v xs) (j0 : Nat) (u0 : Value) (j1 : Nat) (u1 : Value) (j2 : Nat) (u2 : Value) : d.R e (((w.setCell ⟨g, j0, none⟩ u0).setCell ⟨g, j1, none⟩ u1).setCell ⟨g, j2, none⟩ u2) base ok v xs := Kd.R_mono (garR3 h j0 u0 j1 u1 j2 u2) (fun _ h_ => h_.1)
theorem garR4 (h : d.R e w base (fun k => ok k ∧ k ≠ g) v xs) (j0 : Nat) (u0 : Value) (j1 : Nat) (u1 : Value) (j2 : Nat) (u2 : Value) (j3 : Nat) (u3 : Value) : d.R e ((((w.setCell ⟨g, j0, none⟩ u0).setCell ⟨g, j1, none⟩ u1).setCell ⟨g, j2, none⟩ u2).setCell ⟨g, j3, none⟩ u3) base (fun k => ok k ∧ k ≠ g) v xs := (Kd.R_far (p := ⟨g, j3, none⟩) (Kd.R_far (p := ⟨g, j2, none⟩) (Kd.R_far (p := ⟨g, j1, none⟩) (Kd.R_far (p := ⟨g, j0, none⟩) h (fun _ hk => hk.2) u0) (fun _ hk => hk.2) u1) (fun _ hk => hk.2) u2) (fun _ hk => hk.2) u3)
theorem farR4 (h : d.R e w base (fun k => ok k ∧ k ≠ g) v xs) (j0 : Nat) (u0 : Value) (j1 : Nat) (u1 : Value) (j2 : Nat) (u2 : Value) (j3 : Nat) (u3 : Value) : d.R e ((((w.setCell ⟨g, j0, none⟩ u0).setCell ⟨g, j1, none⟩ u1).setCell ⟨g, j2, none⟩ u2).setCell ⟨g, j3, none⟩ u3) base ok v xs := Kd.R_mono (garR4 h j0 u0 j1 u1 j2 u2 j3 u3) (fun _ h_ => h_.1)
theorem garR5 (h : d.R e w base (fun k => ok k ∧ k ≠ g) v xs) (j0 : Nat) (u0 : Value) (j1 : Nat) (u1 : Value) (j2 : Nat) (u2 : Value) (j3 : Nat) (u3 : Value) (j4 : Nat) (u4 : Value) : d.R e (((((w.setCell ⟨g, j0, none⟩ u0).setCell ⟨g, j1, none⟩ u1).setCell ⟨g, j2, none⟩ u2).setCell ⟨g, j3, none⟩ u3).setCell ⟨g, j4, none⟩ u4) base (fun k => ok k ∧ k ≠ g) v xs := (Kd.R_far (p := ⟨g, j4, none⟩) (Kd.R_far (p := ⟨g, j3, none⟩) (Kd.R_far (p := ⟨g, j2, none⟩) (Kd.R_far (p := ⟨g, j1, none⟩) (Kd.R_far (p := ⟨g, j0, none⟩) h (fun _ hk => hk.2) u0) (fun _ hk => hk.2) u1) (fun _ hk => hk.2) u2) (fun _ hk => hk.2) u3) (fun _ hk => hk.2) u4)
theorem farR5 (h : d.R e w base (fun k => ok k ∧ k ≠ g) v xs) (j0 : Nat) (u0 : Value) (j1 : Nat) (u1 : Value) (j2 : Nat) (u2 : Value) (j3 : Nat) (u3 : Value) (j4 : Nat) (u4 : Value) : d.R e (((((w.setCell ⟨g, j0, none⟩ u0).setCell ⟨g, j1, none⟩ u1).setCell ⟨g, j2, none⟩ u2).setCell ⟨g, j3, none⟩ u3).setCell ⟨g, j4, none⟩ u4) base ok v xs := Kd.R_mono (garR5 h j0 u0 j1 u1 j2 u2 j3 u3 j4 u4) (fun _ h_ => h_.1)
theorem garR6 (h : d.R e w base (fun k => ok k ∧ k ≠ g) v xs) (j0 : Nat) (u0 : Value) (j1 : Nat) (u1 : Value) (j2 : Nat) (u2 : Value) (j3 : Nat) (u3 : Value) (j4 : Nat) (u4 : Value) (j5 : Nat) (u5 : Value) : d.R e ((((((w.setCell ⟨g, j0, none⟩ u0).setCell ⟨g, j1, none⟩ u1).setCell ⟨g, j2, none⟩ u2).setCell ⟨g, j3, none⟩ u3).setCell ⟨g, j4, none⟩ u4).setCell ⟨g, j5, none⟩ u5) base (fun k => ok k ∧ k ≠ g) v xs := (Kd.R_far (p := ⟨g, j5, none⟩) (Kd.R_far (p := ⟨g, j4, none⟩) (Kd.R_far (p := ⟨g, j3, none⟩) (Kd.R_far (p := ⟨g, j2, none⟩) (Kd.R_far (p := ⟨g, j1, none⟩) (Kd.R_far (p := ⟨g, j0, none⟩) h (fun _ hk => hk.2) u0) (fun _ hk => hk.2) u1) (fun _ hk => hk.2) u2) (fun _ hk => hk.2) u3) (fun _ hk => hk.2) u4) (fun _ hk => hk.2) u5)
theorem farR6 (h : d.R e w base (fun k => ok k ∧ k ≠ g) v xs) (j0 : Nat) (u0 : Value) (j1 : Nat) (u1 : Value) (j2 : Nat) (u2 : Value) (j3 : Nat) (u3 : Value) (j4 : Nat) (u4 : Value) (j5 : Nat) (u5 : Value) : d.R e ((((((w.setCell ⟨g, j0, none⟩ u0).setCell ⟨g, j1, none⟩ u1).setCell ⟨g, j2, none⟩ u2).setCell ⟨g, j3, none⟩ u3).setCell ⟨g, j4, none⟩ u4).setCell ⟨g, j5, none⟩ u5) base ok v xs := Kd.R_mono (garR6 h j0 u0 j1 u1 j2 u2 j3 u3 j4 u4 j5 u5) (fun _ h_ => h_.1)
theorem garR7 (h : d.R e w base (fun k => ok k ∧ k ≠ g) v xs) (j0 : Nat) (u0 : Value) (j1 : Nat) (u1 : Value) (j2 : Nat) (u2 : Value) (j3 : Nat) (u3 : Value) (j4 : Nat) (u4 : Value) (j5 : Nat) (u5 : Value) (j6 : Nat) (u6 : Value) : d.R e (((((((w.setCell ⟨g, j0, none⟩ u0).setCell ⟨g, j1, none⟩ u1).setCell ⟨g, j2, none⟩ u2).setCell ⟨g, j3, none⟩ u3).setCell ⟨g, j4, none⟩ u4).setCell ⟨g, j5, none⟩ u5).setCell ⟨g, j6, none⟩ u6) base (fun k => ok k ∧ k ≠ g) v xs := (Kd.R_far (p := ⟨g, j6, none⟩) (Kd.R_far (p := ⟨g, j5, none⟩) (Kd.R_far (p := ⟨g, j4, none⟩) (Kd.R_far (p := ⟨g, j3, none⟩) (Kd.R_far (p := ⟨g, j2, none⟩) (Kd.R_far (p := ⟨g, j1, none⟩) (Kd.R_far (p := ⟨g, j0, none⟩) h (fun _ hk => hk.2) u0) (fun _ hk => hk.2) u1) (fun _ hk => hk.2) u2) (fun _ hk => hk.2) u3) (fun _ hk => hk.2) u4) (fun _ hk => hk.2) u5) (fun _ hk => hk.2) u6)
theorem farR7 (h : d.R e w base (fun k => ok k ∧ k ≠ g) v xs) (j0 : Nat) (u0 : Value) (j1 : Nat) (u1 : Value) (j2 : Nat) (u2 : Value) (j3 : Nat) (u3 : Value) (j4 : Nat) (u4 : Value) (j5 : Nat) (u5 : Value) (j6 : Nat) (u6 : Value) : d.R e (((((((w.setCell ⟨g, j0, none⟩ u0).setCell ⟨g, j1, none⟩ u1).setCell ⟨g, j2, none⟩ u2).setCell ⟨g, j3, none⟩ u3).setCell ⟨g, j4, none⟩ u4).setCell ⟨g, j5, none⟩ u5).setCell ⟨g, j6, none⟩ u6) base ok v xs := Kd.R_mono (garR7 h j0 u0 j1 u1 j2 u2 j3 u3 j4 u4 j5 u5 j6 u6) (fun _ h_ => h_.1)
theorem garR8 (h : d.R e w base (fun k => ok k ∧ k ≠ g) v xs) (j0 : Nat) (u0 : Value) (j1 : Nat) (u1 : Value) (j2 : Nat) (u2 : Value) (j3 : Nat) (u3 : Value) (j4 : Nat) (u4 : Value) (j5 : Nat) (u5 : Value) (j6 : Nat) (u6 : Value) (j7 : Nat) (u7 : Value) : d.R e ((((((((w.setCell ⟨g, j0, none⟩ u0).setCell ⟨g, j1, none⟩ u1).setCell ⟨g, j2, none⟩ u2).setCell ⟨g, j3, none⟩ u3).setCell ⟨g, j4, none⟩ u4).setCell ⟨g, j5, none⟩ u5).setCell ⟨g, j6, none⟩ u6).setCell ⟨g, j7, none⟩ u7) base (fun k => ok k ∧ k ≠ g) v xs := (Kd.R_far (p := ⟨g, j7, none⟩) (Kd.R_far (p := ⟨g, j6, none⟩) (Kd.R_far (p := ⟨g, j5, none⟩) (Kd.R_far (p := ⟨g, j4, none⟩) (Kd.R_far (p := ⟨g, j3, none⟩) (Kd.R_far (p := ⟨g, j2, none⟩) (Kd.R_far (p := ⟨g, j1, none⟩) (Kd.R_far (p := ⟨g, j0, none⟩) h (fun _ hk => hk.2) u0) (fun _ hk => hk.2) u1) (fun _ hk => hk.2) u2) (fun _ hk => hk.2) u3) (fun _ hk => hk.2) u4) (fun _ hk => hk.2) u5) (fun _ hk => hk.2) u6) (fun _ hk => hk.2) u7)
theorem farR8 (h : d.R e w base (fun k => ok k ∧ k ≠ g) v xs) (j0 : Nat) (u0 : Value) (j1 : Nat) (u1 : Value) (j2 : Nat) (u2 : Value) (j3 : Nat) (u3 : Value) (j4 : Nat) (u4 : Value) (j5 : Nat) (u5 : Value) (j6 : Nat) (u6 : Value) (j7 : Nat) (u7 : Value) : d.R e ((((((((w.setCell ⟨g, j0, none⟩ u0).setCell ⟨g, j1, none⟩ u1).setCell ⟨g, j2, none⟩ u2).setCell ⟨g, j3, none⟩ u3).setCell ⟨g, j4, none⟩ u4).setCell ⟨g, j5, none⟩ u5).setCell ⟨g, j6, none⟩ u6).setCell ⟨g, j7, none⟩ u7) base ok v xs := Kd.R_mono (garR8 h j0 u0 j1 u1 j2 u2 j3 u3 j4 u4 j5 u5 j6 u6 j7 u7) (fun _ h_ => h_.1)
theorem garV1 (h : Kd.V d e w base (fun k => ok k ∧ k ≠ g) v xs) (j0 : Nat) (u0 : Value) : Kd.V d e (w.setCell ⟨g, j0, none⟩ u0) base (fun k => ok k ∧ k ≠ g) v xs := (Kd.V_far (p := ⟨g, j0, none⟩) h (fun _ hk => hk.2) u0)
theorem farV1 (h : Kd.V d e w base (fun k => ok k ∧ k ≠ g) v xs) (j0 : Nat) (u0 : Value) : Kd.V d e (w.setCell ⟨g, j0, none⟩ u0) base ok v xs := Kd.V_mono (garV1 h j0 u0) (fun _ h_ => h_.1)
theorem garV2 (h : Kd.V d e w base (fun k => ok k ∧ k ≠ g) v xs) (j0 : Nat) (u0 : Value) (j1 : Nat) (u1 : Value) : Kd.V d e ((w.setCell ⟨g, j0, none⟩ u0).setCell ⟨g, j1, none⟩ u1) base (fun k => ok k ∧ k ≠ g) v xs := (Kd.V_far (p := ⟨g, j1, none⟩) (Kd.V_far (p := ⟨g, j0, none⟩) h (fun _ hk => hk.2) u0) (fun _ hk => hk.2) u1)
theorem farV2 (h : Kd.V d e w base (fun k => ok k ∧ k ≠ g) v xs) (j0 : Nat) (u0 : Value) (j1 : Nat) (u1 : Value) : Kd.V d e ((w.setCell ⟨g, j0, none⟩ u0).setCell ⟨g, j1, none⟩ u1) base ok v xs := Kd.V_mono (garV2 h j0 u0 j1 u1) (fun _ h_ => h_.1)
theorem garV3 (h : Kd.V d e w base (fun k => ok k ∧ k ≠ g) v xs) (j0 : Nat) (u0 : Value) (j1 : Nat) (u1 : Value) (j2 : Nat) (u2 : Value) : Kd.V d e (((w.setCell ⟨g, j0, none⟩ u0).setCell ⟨g, j1, none⟩ u1).setCell ⟨g, j2, none⟩ u2) base (fun k => ok k ∧ k ≠ g) v xs := (Kd.V_far (p := ⟨g, j2, none⟩) (Kd.V_far (p := ⟨g, j1, none⟩) (Kd.V_far (p := ⟨g, j0, none⟩) h (fun _ hk => hk.2) u0) (fun _ hk => hk.2) u1) (fun _ hk => hk.2) u2)
theorem farV3 (h : Kd.V d e w base (fun k => ok k ∧ k ≠ g) v xs) (j0 : Nat) (u0 : Value) (j1 : Nat) (u1 : Value) (j2 : Nat) (u2 : Value) : Kd.V d e (((w.setCell ⟨g, j0, none⟩ u0).setCell ⟨g, j1, none⟩ u1).setCell ⟨g, j2, none⟩ u2) base ok v xs := Kd.V_mono (garV3 h j0 u0 j1 u1 j2 u2) (fun _ h_ => h_.1)
theorem garV4 (h : Kd.V d e w base (fun k => ok k ∧ k ≠ g) v xs) (j0 : Nat) (u0 : Value) (j1 : Nat) (u1 : Value) (j2 : Nat) (u2 : Value) (j3 : Nat) (u3 : Value) : Kd.V d e ((((w.setCell ⟨g, j0, none⟩ u0).setCell ⟨g, j1, none⟩ u1).setCell ⟨g, j2, none⟩ u2).setCell ⟨g, j3, none⟩ u3) base (fun k => ok k ∧ k ≠ g) v xs := (Kd.V_far (p := ⟨g, j3, none⟩) (Kd.V_far (p := ⟨g, j2, none⟩) (Kd.V_far (p := ⟨g, j1, none⟩) (Kd.V_far (p := ⟨g, j0, none⟩) h (fun _ hk => hk.2) u0) (fun _ hk => hk.2) u1) (fun _ hk => hk.2) u2) (fun _ hk => hk.2) u3)
theorem farV4 (h : Kd.V d e w base (fun k => ok k ∧ k ≠ g) v xs) (j0 : Nat) (u0 : Value) (j1 : Nat) (u1 : Value) (j2 : Nat) (u2 : Value) (j3 : Nat) (u3 : Value) : Kd.V d e ((((w.setCell ⟨g, j0, none⟩ u0).setCell ⟨g, j1, none⟩ u1).setCell ⟨g, j2, none⟩ u2).setCell ⟨g, j3, none⟩ u3) base ok v xs := Kd.V_mono (garV4 h j0 u0 j1 u1 j2 u2 j3 u3) (fun _ h_ => h_.1)
theorem garV5 (h : Kd.V d e w base (fun k => ok k ∧ k ≠ g) v xs) (j0 : Nat) (u0 : Value) (j1 : Nat) (u1 : Value) (j2 : Nat) (u2 : Value) (j3 : Nat) (u3 : Value) (j4 : Nat) (u4 : Value) : Kd.V d e (((((w.setCell ⟨g, j0, none⟩ u0).setCell ⟨g, j1, none⟩ u1).setCell ⟨g, j2, none⟩ u2).setCell ⟨g, j3, none⟩ u3).setCell ⟨g, j4, none⟩ u4) base (fun k => ok k ∧ k ≠ g) v xs := (Kd.V_far (p := ⟨g, j4, none⟩) (Kd.V_far (p := ⟨g, j3, none⟩) (Kd.V_far (p := ⟨g, j2, none⟩) (Kd.V_far (p := ⟨g, j1, none⟩) (Kd.V_far (p := ⟨g, j0, none⟩) h (fun _ hk => hk.2) u0) (fun _ hk => hk.2) u1) (fun _ hk => hk.2) u2) (fun _ hk => hk.2) u3) (fun _ hk => hk.2) u4)
theorem farV5 (h : Kd.V d e w base (fun k => ok k ∧ k ≠ g) v xs) (j0 : Nat) (u0 : Value) (j1 : Nat) (u1 : Value) (j2 : Nat) (u2 : Value) (j3 : Nat) (u3 : Value) (j4 : Nat) (u4 : Value) : Kd.V d e (((((w.setCell ⟨g, j0, none⟩ u0).setCell ⟨g, j1, none⟩ u1).setCell ⟨g, j2, none⟩ u2).setCell ⟨g, j3, none⟩ u3).setCell ⟨g, j4, none⟩ u4) base ok v xs := Kd.V_mono (garV5 h j0 u0 j1 u1 j2 u2 j3 u3 j4 u4) (fun _ h_ => h_.1)
theorem garV6 (h : Kd.V d e w base (fun k => ok k ∧ k ≠ g) v xs) (j0 : Nat) (u0 : Value) (j1 : Nat) (u1 : Value) (j2 : Nat) (u2 : Value) (j3 : Nat) (u3 : Value) (j4 : Nat) (u4 : Value) (j5 : Nat) (u5 : Value) : Kd.V d e ((((((w.setCell ⟨g, j0, none⟩ u0).setCell ⟨g, j1, none⟩ u1).setCell ⟨g, j2, none⟩ u2).setCell ⟨g, j3, none⟩ u3).setCell ⟨g, j4, none⟩ u4).setCell ⟨g, j5, none⟩ u5) base (fun k => ok k ∧ k ≠ g) v xs := (Kd.V_far (p := ⟨g, j5, none⟩) (Kd.V_far (p := ⟨g, j4, none⟩) (Kd.V_far (p := ⟨g, j3, none⟩) (Kd.V_far (p := ⟨g, j2, none⟩) (Kd.V_far (p := ⟨g, j1, none⟩) (Kd.V_far (p := ⟨g, j0, none⟩) h (fun _ hk => hk.2) u0) (fun _ hk => hk.2) u1) (fun _ hk => hk.2) u2) (fun _ hk => hk.2) u3) (fun _ hk => hk.2) u4) (fun _ hk => hk.2) u5)
theorem farV6 (h : Kd.V d e w base (fun k => ok k ∧ k ≠ g) v xs) (j0 : Nat) (u0 : Value) (j1 : Nat) (u1 : Value) (j2 : Nat) (u2 : Value) (j3 : Nat) (u3 : Value) (j4 : Nat) (u4 : Value) (j5 : Nat) (u5 : Value) : Kd.V d e ((((((w.setCell ⟨g, j0, none⟩ u0).setCell ⟨g, j1, none⟩ u1).setCell ⟨g, j2, none⟩ u2).setCell ⟨g, j3, none⟩ u3).setCell ⟨g, j4, none⟩ u4).setCell ⟨g, j5, none⟩ u5) base ok v xs := Kd.V_mono (garV6 h j0 u0 j1 u1 j2 u2 j3 u3 j4 u4 j5 u5) (fun _ h_ => h_.1)
theorem garV7 (h : Kd.V d e w base (fun k => ok k ∧ k ≠ g) v xs) (j0 : Nat) (u0 : Value) (j1 : Nat) (u1 : Value) (j2 : Nat) (u2 : Value) (j3 : Nat) (u3 : Value) (j4 : Nat) (u4 : Value) (j5 : Nat) (u5 : Value) (j6 : Nat) (u6 : Value) : Kd.V d e (((((((w.setCell ⟨g, j0, none⟩ u0).setCell ⟨g, j1, none⟩ u1).setCell ⟨g, j2, none⟩ u2).setCell ⟨g, j3, none⟩ u3).setCell ⟨g, j4, none⟩ u4).setCell ⟨g, j5, none⟩ u5).setCell ⟨g, j6, none⟩ u6) base (fun k => ok k ∧ k ≠ g) v xs := (Kd.V_far (p := ⟨g, j6, none⟩) (Kd.V_far (p := ⟨g, j5, none⟩) (Kd.V_far (p := ⟨g, j4, none⟩) (Kd.V_far (p := ⟨g, j3, none⟩) (Kd.V_far (p := ⟨g, j2, none⟩) (Kd.V_far (p := ⟨g, j1, none⟩) (Kd.V_far (p := ⟨g, j0, none⟩) h (fun _ hk => hk.2) u0) (fun _ hk => hk.2) u1) (fun _ hk => hk.2) u2) (fun _ hk => hk.2) u3) (fun _ hk => hk.2) u4) (fun _ hk => hk.2) u5) (fun _ hk => hk.2) u6)
theorem farV7 (h : Kd.V d e w base (fun k => ok k ∧ k ≠ g) v xs) (j0 : Nat) (u0 : Value) (j1 : Nat) (u1 : Value) (j2 : Nat) (u2 : Value) (j3 : Nat) (u3 : Value) (j4 : Nat) (u4 : Value) (j5 : Nat) (u5 : Value) (j6 : Nat) (u6 : Value) : Kd.V d e (((((((w.setCell ⟨g, j0, none⟩ u0).setCell ⟨g, j1, none⟩ u1).setCell ⟨g, j2, none⟩ u2).setCell ⟨g, j3, none⟩ u3).setCell ⟨g, j4, none⟩ u4).setCell ⟨g, j5, none⟩ u5).setCell ⟨g, j6, none⟩ u6) base ok v xs := Kd.V_mono (garV7 h j0 u0 j1 u1 j2 u2 j3 u3 j4 u4 j5 u5 j6 u6) (fun _ h_ => h_.1)
theorem garV8 (h : Kd.V d e w base (fun k => ok k ∧ k ≠ g) v xs) (j0 : Nat) (u0 : Value) (j1 : Nat) (u1 : Value) (j2 : Nat) (u2 : Value) (j3 : Nat) (u3 : Value) (j4 : Nat) (u4 : Value) (j5 : Nat) (u5 : Value) (j6 : Nat) (u6 : Value) (j7 : Nat) (u7 : Value) : Kd.V d e ((((((((w.setCell ⟨g, j0, none⟩ u0).setCell ⟨g, j1, none⟩ u1).setCell ⟨g, j2, none⟩ u2).setCell ⟨g, j3, none⟩ u3).setCell ⟨g, j4, none⟩ u4).setCell ⟨g, j5, none⟩ u5).setCell ⟨g, j6, none⟩ u6).setCell ⟨g, j7, none⟩ u7) base (fun k => ok k ∧ k ≠ g) v xs := (Kd.V_far (p := ⟨g, j7, none⟩) (Kd.V_far (p := ⟨g, j6, none⟩) (Kd.V_far (p := ⟨g, j5, none⟩) (Kd.V_far (p := ⟨g, j4, none⟩) (Kd.V_far (p := ⟨g, j3, none⟩) (Kd.V_far (p := ⟨g, j2, none⟩) (Kd.V_far (p := ⟨g, j1, none⟩) (Kd.V_far (p := ⟨g, j0, none⟩) h (fun _ hk => hk.2) u0) (fun _ hk => hk.2) u1) (fun _ hk => hk.2) u2) (fun _ hk => hk.2) u3) (fun _ hk => hk.2) u4) (fun _ hk => hk.2) u5) (fun _ hk => hk.2) u6) (fun _ hk => hk.2) u7)
theorem farV8 (h : Kd.V d e w base (fun k => ok k ∧ k ≠ g) v xs) (j0 : Nat) (u0 : Value) (j1 : Nat) (u1 : Value) (j2 : Nat) (u2 : Value) (j3 : Nat) (u3 : Value) (j4 : Nat) (u4 : Value) (j5 : Nat) (u5 : Value) (j6 : Nat) (u6 : Value) (j7 : Nat) (u7 : Value) : Kd.V d e ((((((((w.setCell ⟨g, j0, none⟩ u0).setCell ⟨g, j1, none⟩ u1).setCell ⟨g, j2, none⟩ u2).setCell ⟨g, j3, none⟩ u3).setCell ⟨g, j4, none⟩ u4).setCell ⟨g, j5, none⟩ u5).setCell ⟨g, j6, none⟩ u6).setCell ⟨g, j7, none⟩ u7) base ok v xs := Kd.V_mono (garV8 h j0 u0 j1 u1 j2 u2 j3 u3 j4 u4 j5 u5 j6 u6 j7 u7) (fun _ h_ => h_.1)
theorem fR1 (h : d.R e w base (fun k => ok k ∧ k ≠ g) v xs) {j0 : Nat} {u0 : Value} : d.R e (w.setCell ⟨g, j0, none⟩ u0) base ok v xs := farR1 h _ _
theorem fR2 (h : d.R e w base (fun k => ok k ∧ k ≠ g) v xs) {j0 : Nat} {u0 : Value} {j1 : Nat} {u1 : Value} : d.R e ((w.setCell ⟨g, j0, none⟩ u0).setCell ⟨g, j1, none⟩ u1) base ok v xs := farR2 h _ _ _ _
theorem fR3 (h : d.R e w base (fun k => ok k ∧ k ≠ g) v xs) {j0 : Nat} {u0 : Value} {j1 : Nat} {u1 : Value} {j2 : Nat} {u2 : Value} : d.R e (((w.setCell ⟨g, j0, none⟩ u0).setCell ⟨g, j1, none⟩ u1).setCell ⟨g, j2, none⟩ u2) base ok v xs := farR3 h _ _ _ _ _ _
theorem fR4 (h : d.R e w base (fun k => ok k ∧ k ≠ g) v xs) {j0 : Nat} {u0 : Value} {j1 : Nat} {u1 : Value} {j2 : Nat} {u2 : Value} {j3 : Nat} {u3 : Value} : d.R e ((((w.setCell ⟨g, j0, none⟩ u0).setCell ⟨g, j1, none⟩ u1).setCell ⟨g, j2, none⟩ u2).setCell ⟨g, j3, none⟩ u3) base ok v xs := farR4 h _ _ _ _ _ _ _ _
theorem fR5 (h : d.R e w base (fun k => ok k ∧ k ≠ g) v xs) {j0 : Nat} {u0 : Value} {j1 : Nat} {u1 : Value} {j2 : Nat} {u2 : Value} {j3 : Nat} {u3 : Value} {j4 : Nat} {u4 : Value} : d.R e (((((w.setCell ⟨g, j0, none⟩ u0).setCell ⟨g, j1, none⟩ u1).setCell ⟨g, j2, none⟩ u2).setCell ⟨g, j3, none⟩ u3).setCell ⟨g, j4, none⟩ u4) base ok v xs := farR5 h _ _ _ _ _ _ _ _ _ _
theorem fR6 (h : d.R e w base (fun k => ok k ∧ k ≠ g) v xs) {j0 : Nat} {u0 : Value} {j1 : Nat} {u1 : Value} {j2 : Nat} {u2 : Value} {j3 : Nat} {u3 : Value} {j4 : Nat} {u4 : Value} {j5 : Nat} {u5 : Value} : d.R e ((((((w.setCell ⟨g, j0, none⟩ u0).setCell ⟨g, j1, none⟩ u1).setCell ⟨g, j2, none⟩ u2).setCell ⟨g, j3, none⟩ u3).setCell ⟨g, j4, none⟩ u4).setCell ⟨g, j5, none⟩ u5) base ok v xs := farR6 h _ _ _ _ _ _ _ _ _ _ _ _
theorem fR7 (h : d.R e w base (fun k => ok k ∧ k ≠ g) v xs) {j0 : Nat} {u0 : Value} {j1 : Nat} {u1 : Value} {j2 : Nat} {u2 : Value} {j3 : Nat} {u3 : Value} {j4 : Nat} {u4 : Value} {j5 : Nat} {u5 : Value} {j6 : Nat} {u6 : Value} : d.R e (((((((w.setCell ⟨g, j0, none⟩ u0).setCell ⟨g, j1, none⟩ u1).setCell ⟨g, j2, none⟩ u2).setCell ⟨g, j3, none⟩ u3).setCell ⟨g, j4, none⟩ u4).setCell ⟨g, j5, none⟩ u5).setCell ⟨g, j6, none⟩ u6) base ok v xs := farR7 h _ _ _ _ _ _ _ _ _ _ _ _ _ _
theorem fR8 (h : d.R e w base (fun k => ok k ∧ k ≠ g) v xs) {j0 : Nat} {u0 : Value} {j1 : Nat} {u1 : Value} {j2 : Nat} {u2 : Value} {j3 : Nat} {u3 : Value} {j4 : Nat} {u4 : Value} {j5 : Nat} {u5 : Value} {j6 : Nat} {u6 : Value} {j7 : Nat} {u7 : Value} : d.R e ((((((((w.setCell ⟨g, j0, none⟩ u0).setCell ⟨g, j1, none⟩ u1).setCell ⟨g, j2, none⟩ u2).setCell ⟨g, j3, none⟩ u3).setCell ⟨g, j4, none⟩ u4).setCell ⟨g, j5, none⟩ u5).setCell ⟨g, j6, none⟩ u6).setCell ⟨g, j7, none⟩ u7) base ok v xs := farR8 h _ _ _ _ _ _ _ _ _ _ _ _ _ _ _ _
theorem fV1 (h : Kd.V d e w base (fun k => ok k ∧ k ≠ g) v xs) {j0 : Nat} {u0 : Value} : Kd.V d e (w.setCell ⟨g, j0, none⟩ u0) base ok v xs := farV1 h _ _
theorem fV2 (h : Kd.V d e w base (fun k => ok k ∧ k ≠ g) v xs) {j0 : Nat} {u0 : Value} {j1 : Nat} {u1 : Value} : Kd.V d e ((w.setCell ⟨g, j0, none⟩ u0).setCell ⟨g, j1, none⟩ u1) base ok v xs := farV2 h _ _ _ _
theorem fV3 (h : Kd.V d e w base (fun k => ok k ∧ k ≠ g) v xs) {j0 : Nat} {u0 : Value} {j1 : Nat} {u1 : Value} {j2 : Nat} {u2 : Value} : Kd.V d e (((w.setCell ⟨g, j0, none⟩ u0).setCell ⟨g, j1, none⟩ u1).setCell ⟨g, j2, none⟩ u2) base ok v xs := farV3 h _ _ _ _ _ _
theorem fV4 (h : Kd.V d e w base (fun k => ok k ∧ k ≠ g) v xs) {j0 : Nat} {u0 : Value} {j1 : Nat} {u1 : Value} {j2 : Nat} {u2 : Value} {j3 : Nat} {u3 : Value} : Kd.V d e ((((w.setCell ⟨g, j0, none⟩ u0).setCell ⟨g, j1, none⟩ u1).setCell ⟨g, j2, none⟩ u2).setCell ⟨g, j3, none⟩ u3) base ok v xs := farV4 h _ _ _ _ _ _ _ _
theorem fV5 (h : Kd.V d e w base (fun k => ok k ∧ k ≠ g) v xs) {j0 : Nat} {u0 : Value} {j1 : Nat} {u1 : Value} {j2 : Nat} {u2 : Value} {j3 : Nat} {u3 : Value} {j4 : Nat} {u4 : Value} : Kd.V d e (((((w.setCell ⟨g, j0, none⟩ u0).setCell ⟨g, j1, none⟩ u1).setCell ⟨g, j2, none⟩ u2).setCell ⟨g, j3, none⟩ u3).setCell ⟨g, j4, none⟩ u4) base ok v xs := farV5 h _ _ _ _ _ _ _ _ _ _
theorem fV6 (h : Kd.V d e w base (fun k => ok k ∧ k ≠ g) v xs) {j0 : Nat} {u0 : Value} {j1 : Nat} {u1 : Value} {j2 : Nat} {u2 : Value} {j3 : Nat} {u3 : Value} {j4 : Nat} {u4 : Value} {j5 : Nat} {u5 : Value} : Kd.V d e ((((((w.setCell ⟨g, j0, none⟩ u0).setCell ⟨g, j1, none⟩ u1).setCell ⟨g, j2, none⟩ u2).setCell ⟨g, j3, none⟩ u3).setCell ⟨g, j4, none⟩ u4).setCell ⟨g, j5, none⟩ u5) base ok v xs := farV6 h _ _ _ _ _ _ _ _ _ _ _ _
theorem fV7 (h : Kd.V d e w base (fun k => ok k ∧ k ≠ g) v xs) {j0 : Nat} {u0 : Value} {j1 : Nat} {u1 : Value} {j2 : Nat} {u2 : Value} {j3 : Nat} {u3 : Value} {j4 : Nat} {u4 : Value} {j5 : Nat} {u5 : Value} {j6 : Nat} {u6 : Value} : Kd.V d e (((((((w.setCell ⟨g, j0, none⟩ u0).setCell ⟨g, j1, none⟩ u1).setCell ⟨g, j2, none⟩ u2).setCell ⟨g, j3, none⟩ u3).setCell ⟨g, j4, none⟩ u4).setCell ⟨g, j5, none⟩ u5).setCell ⟨g, j6, none⟩ u6) base ok v xs := farV7 h _ _ _ _ _ _ _ _ _ _ _ _ _ _
theorem fV8 (h : Kd.V d e w base (fun k => ok k ∧ k ≠ g) v xs) {j0 : Nat} {u0 : Value} {j1 : Nat} {u1 : Value} {j2 : Nat} {u2 : Value} {j3 : Nat} {u3 : Value} {j4 : Nat} {u4 : Value} {j5 : Nat} {u5 : Value} {j6 : Nat} {u6 : Value} {j7 : Nat} {u7 : Value} : Kd.V d e ((((((((w.setCell ⟨g, j0, none⟩ u0).setCell ⟨g, j1, none⟩ u1).setCell ⟨g, j2, none⟩ u2).setCell ⟨g, j3, none⟩ u3).setCell ⟨g, j4, none⟩ u4).setCell ⟨g, j5, none⟩ u5).setCell ⟨g, j6, none⟩ u6).setCell ⟨g, j7, none⟩ u7) base ok v xs := farV8 h _ _ _ _ _ _ _ _ _ _ _ _ _ _ _ _
end
/-- What is shared does not lie in a block that its blocks are not. -/
theorem ext_V_blk {α : Type} {d : Kd α} {e : Nat} {W : World} {b : Nat} {ok : Nat → Prop} {ad : Addr} {n c : Nat} {xs : List α} {g : Nat} (h : Kd.V d e W b ok (.slice (some ad) n c) xs) (hg : ¬ ok g) {i : Int} (h0 : 0 ≤ i) (h1 : i < (xs.length : Int)) (hsz : 0 < d.sz := by decide) : ad.block ≠ g := by
 rintro rfl
 obtain ⟨A', c', e', hl, hF⟩ := h
 obtain ⟨rfl, rfl, rfl⟩ := Value.slice.inj e'
 have hC := hF { W with heap := W.heap.setIfInBounds ad.block (.deferred none) } (fun k hk _ => Array.getElem?_setIfInBounds_ne (fun e => by subst e; exact hg hk))
 obtain ⟨x, hx⟩ : ∃ x, x ∈ xs := List.exists_mem_of_length_pos (by omega)
 obtain ⟨ad2, cs, e2, hcs, _, hcell⟩ := Kd.C_get hC x i h0 h1
 obtain rfl := Option.some.inj e2
 obtain ⟨u, hu⟩ : ∃ u, cs[0]? = some u := ⟨_, List.getElem?_eq_getElem (by omega)⟩
 have := hcell 0 u hu
 have hb : (ad.add (i.toNat * d.sz + 0)).block = ad.block := add_block ..
 rw [World.cell?, hb] at this
 simp only [] at this
 rcases Nat.lt_or_ge ad.block W.heap.size with hlt | hge
 ·rw [Array.getElem?_setIfInBounds_self_of_lt hlt] at this
  simp at this
 ·rw [Array.getElem?_eq_none (by simpa using hge)] at this
  simp at this
/-! ### steps of a region, in few words: what is shown of each by a tactic of its own -/
section
variable {P : Program} {ops : Array Oper} {Q : Exit → Act → World → Prop} {S : World → Prop} {ds : List Nat} {T : Bool × List (List Nat × List Nat)} {B : List Nat} {oi : Oper} {v : Value} {fuel : Nat} {l : Array Bool} {a a' : Act} {w : World}
theorem pM (i N : Nat) (hT : rtab .any ops = T) (h : wpAnyLast P .any ops Q S ds fuel (l.setIfInBounds i true) a' w)
  (hc : anyT T l.toList (l.setIfInBounds i true).toList i = true := by kernel_rfl) (hi : ops[i]? = some oi := by rfl) (hN : oi.dst = some N := by rfl) (hQ : ∀ c a w, Q (.panic c) (a.put oi.dst v) w → Q (.panic c) a w := by exact fun _ _ _ h => h)
  (hw : Region.wanted oi (yielded ops a.tmps) = true := by rfl) (hy : ∀ w, (execOp a.eval oi).run P w = .ok (.value v) w := by intro w'; go_simp; with_reducible rfl)
  (ha : a.put (some N) v = a' := by simp only [Act.put, List.setIfInBounds_toArray, List.set_cons_zero, List.set_cons_succ, i64_w, i32_w]; rfl) : wpAnyLast P .any ops Q S ds (fuel + 1) l a w :=
 pure_ _ hi hN (any_of hT hc) hQ (Or.inl ⟨hw, hy⟩) ha h
theorem uM (i N : Nat) (hT : rtab .any ops = T) (h : wpAnyLast P .any ops Q S ds fuel (l.setIfInBounds i true) a' w)
  (hc : anyT T l.toList (l.setIfInBounds i true).toList i = true := by kernel_rfl) (hi : ops[i]? = some oi := by rfl) (hN : oi.dst = some N := by rfl) (hQ : ∀ c a w, Q (.panic c) (a.put oi.dst undef) w → Q (.panic c) a w := by exact fun _ _ _ h => h)
  (hw : Region.wanted oi (yielded ops a.tmps) = false := by rfl)
  (ha : a.put (some N) undef = a' := by simp only [Act.put, List.setIfInBounds_toArray, List.set_cons_zero, List.set_cons_succ, i64_w, i32_w]; rfl) : wpAnyLast P .any ops Q S ds (fuel + 1) l a w :=
 pure_ _ hi hN (any_of hT hc) hQ (Or.inr ⟨hw, rfl⟩) ha h
theorem tM (i N : Nat) (hT : rtab .any ops = T) (hB : waitsOk T.2 B = true) (hS : S w) (h : wpAnyLast P .any ops Q S ds fuel (l.setIfInBounds i true) a' w)
  (hc : takeW T B ds l.toList (l.setIfInBounds i true).toList i = true := by kernel_rfl) (hi : ops[i]? = some oi := by rfl) (hN : oi.dst = some N := by rfl) (hQ : ∀ c a w, Q (.panic c) (a.put oi.dst v) w → Q (.panic c) a w := by exact fun _ _ _ h => h)
  (hw : Region.wanted oi (yielded ops a.tmps) = true := by rfl) (hy : ∀ w, S w → (execOp a.eval oi).run P w = .ok (.value v) w := by intro w' hs_; (repeat (have hq_ := hs_.1; replace hs_ := hs_.2)); go_simp; with_reducible rfl)
  (ha : a.put (some N) v = a' := by simp only [Act.put, List.setIfInBounds_toArray, List.set_cons_zero, List.set_cons_succ, i64_w, i32_w]; rfl) : wpAnyLast P .any ops Q S ds (fuel + 1) l a w :=
 take_ _ hi hN (take_ofW hT hB hc) hQ (Or.inl ⟨hw, hy⟩) hS ha h
theorem nM (N : Nat) (h : wpAnyLast P .any ops Q S ds fuel l a' w)
  (ha : a.put (some N) v = a' := by simp only [Act.put, List.setIfInBounds_toArray, List.set_cons_zero, List.set_cons_succ, i64_w, i32_w]; rfl) : wpAnyLast P .any ops Q S ds fuel l (a.put (some N) v) w :=
 norm_ ha h
theorem oM (i N : Nat) (hT : rtab .any ops = T)
  (h : ∀ K : Act → World → Prop, Shut (∀ a' w', S w' → (S w' → wpAnyLast P .any ops Q S ds fuel (l.setIfInBounds i true) a' w') → K a' w') → if Region.wanted oi (yielded ops a.tmps) = true then Oper.wp P oi a w K Q else K (a.put (some N) undef) w)
  (hc : (readyT T.2 l.toList == [i] && l.toList.set i true == (l.setIfInBounds i true).toList) = true := by kernel_rfl) (hi : ops[i]? = some oi := by rfl) (hN : oi.dst = some N := by rfl) (hd : i ∉ ds := by decide) : wpAnyLast P .any ops Q S ds (fuel + 1) l a w :=
 one_ _ hi hN (one_of hT hc) hd h
theorem gM {N : Tmp} {K : Act → World → Prop} {f : FuncId} {fn : Func} {as0_ : Array Operand} {ts : Array TypeId} (hf : P.funcs[f]? = some fn) (args : Array Value)
  (h : Calls P f args w fun e w' => ∃ v, e = .returned v ∧ K (a.put (some N) v) w')
  (hname : (fn.name == "runtime.NumGoroutine") = false := by kernel_rfl) (hb : fn.body.isSome = true := by rfl) (hw : Region.wanted oi (yielded ops a.tmps) = true := by rfl) (hN : oi.dst = some N := by rfl)
  (hop : oi.op = .call { callee := .value (.func f), args := as0_, argTypes := ts } := by rfl) (hargs : as0_.map a.eval = args := by exact argA) : if Region.wanted oi (yielded ops a.tmps) = true then Oper.wp P oi a w K Q else K (a.put (some N) undef) w :=
 goes_ hf hname hb args hw hN hop hargs h
end

end Go.Proofs.Ytbmmddngadnofaa.F
