/- The digest of a page. -/
import Derived.Test.YtbmmddngadnofaaPlain
import Derived.Test.YtbmmddngadnofaaFx26
import Derived.Test.YtbmmddngadnofaaFx28
namespace Go.Proofs.Ytbmmddngadnofaa.Tree
open Go.RowKit Go.Proofs.Ytbmmddngadnofaa.F Go.Proofs.Ytbmmddngadnofaa.Bytes Go.Proofs.Ytbmmddngadnofaa.Octets Go.Proofs.YtbmmddngadnofaaW.PrintWords Go.Proofs.YtbmmddngadnofaaW.PrintLast Go.Proofs.YtbmmddngadnofaaW.PrintMore

def head (a v : Int) : List Int := le (IntKind.u64.wrap a) 8 ++ le (IntKind.u64.wrap v) 8
def leafD (a v : Int) (b : List Int) : Int := Crc.I (Crc.sumAll [head a v, b])
theorem u64_range (x : Int) : 0 ≤ IntKind.u64.wrap x ∧ IntKind.u64.wrap x ≤ 18446744073709551615 := by
  rw [IntKind.wrap_u64]
  omega
theorem head_put (a v : Int) : putAllOf [] 8 [IntKind.u64.wrap a, IntKind.u64.wrap v] = (head a v, 0) := by
  have h1 := u64_range a
  have h2 := u64_range v
  rw [putAllOf, if_pos (by omega), putAllOf, if_pos (by omega), putAllOf, List.nil_append]
  rfl
theorem head_length (a v : Int) : (head a v).length = 16 := by rw [head, List.length_append, le_length, le_length]
theorem heads_in (a v : Int) : ∀ x ∈ [IntKind.u64.wrap a, IntKind.u64.wrap v], 0 ≤ x ∧ x ≤ 18446744073709551615 := by
  intro x hx
  simp only [List.mem_cons, List.not_mem_nil, or_false] at hx
  rcases hx with rfl | rfl
  · exact u64_range a
  · exact u64_range v
theorem two_in (a v : Int) (b : List Int) (hb : b.length ≤ 140737488351232) : ∀ c ∈ [head a v, b], c.length ≤ 9223372036854775807 := by
  intro c hc
  simp only [List.mem_cons, List.not_mem_nil, or_false] at hc
  rcases hc with rfl | rfl
  · rw [head_length]; omega
  · omega
theorem Leaf_ (a v : Int) (b : List Int) (hb : b.length ≤ 140737488351232) : Ev (fun k => tree_Leaf.f k a v b) (leafD a v b) := by
  unfold tree_Leaf.f
  have h := putAll_ [] 8 [IntKind.u64.wrap a, IntKind.u64.wrap v] (by omega) (heads_in a v) (by simp) (by simp)
  rw [head_put] at h
  refine Ev.bind h ?_
  exact Ev.bind (Crc.all [head a v, b] (by simp) (two_in a v b hb)) (Ev.now _)
theorem ref_Leaf (a v : Int) (b : List Int) (hb : b.length ≤ 140737488351232) : Ev (fun k => plinthref25_Leaf.f k a v b) (leafD a v b) := by
  unfold plinthref25_Leaf.f
  have h := ref_PutAll [IntKind.u64.wrap a, IntKind.u64.wrap v] (heads_in a v) (by simp)
  rw [head_put] at h
  refine Ev.bind h ?_
  exact Ev.bind (Crc.refAll [head a v, b] (by simp) (two_in a v b hb)) (Ev.now _)
theorem leafD_range (a v : Int) (b : List Int) : 0 ≤ leafD a v b ∧ leafD a v b ≤ 4294967295 := by have := Crc.I_range (Crc.sumAll [head a v, b]); unfold leafD; omega
end Go.Proofs.Ytbmmddngadnofaa.Tree
