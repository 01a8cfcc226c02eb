/- What the bound of the second form gives: a slice's length is below its reading's bulk. -/
import Derived.Test.YtogjpilkgghidaaRows
import Derived.Deep.Slices
import Derived.OpenShut
namespace Go.Proofs.Ytogjpilkgghidaa.Bulk
open Go.ChangeShapes Go.WideShapes Go.RowKit

theorem one_le {H : Type} (d : DataW H) : 1 ≤ Rows.uptoBulk d := by
  cases d with
  | lit l => cases l <;> simp [Rows.uptoBulk]
  | nil => simp [Rows.uptoBulk]
  | ptr d => simp [Rows.uptoBulk]
  | slice elems spare => simp [Rows.uptoBulk]
  | agg parts => simp [Rows.uptoBulk]
  | iface t d => simp [Rows.uptoBulk]
  | map entries => simp [Rows.uptoBulk]
  | held h => simp [Rows.uptoBulk]
theorem length_le {H : Type} (l : List (DataW H)) : l.length ≤ Rows.uptoBulkAll l := by
  induction l with
  | nil => simp [Rows.uptoBulkAll]
  | cons x r ih =>
    have := one_le x
    simp only [Rows.uptoBulkAll, List.length_cons]
    omega
theorem slice_le {P : Program} {H : Type} {enc : TypeId × Value → H} {w : World} {t e : TypeId} {A : Option Addr} {len cap : Nat} {d : DataW H} {ps : List MemPlace} (ht : P.underlying t = some (.slice e))
    (h : DataW.Trod enc P w 0 (fun _ => true) true t (.slice A len cap) d ps) : len + 1 ≤ Rows.uptoBulk d := by
  obtain ⟨fuel, hf⟩ := h
  rcases Go.Deep.open_slice ht hf with ⟨hc, hx⟩ | ⟨a, len', cap', m, n, D, Pl, hc, _, _, _, _, hx, _⟩
  · have hl : len = 0 := by
      simp [Value.cells] at hc
      exact hc.2.1
    have hd : d = .nil := congrArg Prod.fst hx
    rw [hl, hd]
    simp [Rows.uptoBulk]
  · have hl : len = len' := by
      simp [Value.cells] at hc
      exact hc.2.1
    have hd : d = .slice ((List.range len').map D) ((List.range (m - len')).map fun j => D (len' + j)) := congrArg Prod.fst hx
    have h1 := length_le ((List.range len').map D)
    rw [List.length_map, List.length_range] at h1
    rw [hl, hd]
    simp only [Rows.uptoBulk]
    omega
theorem all_le {H : Type} {ds : List (DataW H)} (hk : Rows.uptoSmall H ds = true) (d : DataW H) (hd : d ∈ ds) : Rows.uptoBulk d ≤ 1048576 := by
  have h : Rows.uptoBulkAll ds ≤ 1048576 := of_decide_eq_true hk
  clear hk
  induction ds with
  | nil => cases hd
  | cons x r ih =>
    simp only [Rows.uptoBulkAll] at h
    rcases List.mem_cons.1 hd with rfl | hd
    · omega
    · exact ih hd (by omega)
end Go.Proofs.Ytogjpilkgghidaa.Bulk
