/- Bytes as a text's bytes: two rows of bytes are alike just where their texts are. -/
import Derived.OpenShut
import Derived.Laws.BytesArg
namespace Go.Proofs.Ytogjpilkgghidaa.Bytes
open Go.RowKit

theorem loop_data (b : ByteArray) (d : Nat) : ∀ (i : Nat) (r : List UInt8), i + d = b.size → ByteArray.toList.loop b i r = r.reverse ++ b.data.toList.drop i := by
  induction d with
  | zero =>
    intro i r h
    rw [ByteArray.toList.loop, if_neg (by omega), List.drop_of_length_le (by simp; omega), List.append_nil]
  | succ d ih =>
    intro i r h
    have hi : i < b.data.toList.length := by simp; omega
    rw [ByteArray.toList.loop, if_pos (by omega), ih (i + 1) _ (by omega), List.drop_eq_getElem_cons hi]
    have hg : b.get! i = b.data.toList[i] := by
      have hs : i < b.data.size := by simpa using hi
      show b.data[i]! = b.data.toList[i]
      rw [getElem!_pos b.data i hs]
      rfl
    simp [hg]
theorem toList_data (b : ByteArray) : b.toList = b.data.toList := by
  unfold ByteArray.toList
  rw [loop_data b b.size 0 [] (by omega)]
  simp
def isByte (l : List Int) : Prop := ∀ x ∈ l, 0 ≤ x ∧ x ≤ 255
theorem isByte_of {l : List Int} (h : ∀ x ∈ l, (Lit.int .u8 x).wf = true) : isByte l := fun x hx => bounds_u8 (h x hx)
theorem text_iff {a b : List Int} (ha : isByte a) (hb : isByte b) : (strOfNums a).toList = (strOfNums b).toList ↔ a = b := by
  constructor
  · intro h
    rw [toList_data, toList_data] at h
    simp only [strOfNums] at h
    have inj : ∀ (a b : List Int), isByte a → isByte b → a.map (fun n => UInt8.ofNat n.toNat) = b.map (fun n => UInt8.ofNat n.toNat) → a = b := by
      intro a
      induction a with
      | nil => intro b _ _ h; cases b <;> simp_all
      | cons x a ih =>
        intro b ha hb h
        cases b with
        | nil => simp at h
        | cons y b =>
          simp only [List.map_cons, List.cons.injEq] at h
          have hx := ha x (by simp)
          have hy := hb y (by simp)
          have h1 := congrArg UInt8.toNat h.1
          rw [UInt8.toNat_ofNat', UInt8.toNat_ofNat'] at h1
          have : x = y := by omega
          rw [this, ih b (fun z hz => ha z (by simp [hz])) (fun z hz => hb z (by simp [hz])) h.2]
    exact inj a b ha hb h
  · intro h
    rw [h]
theorem isByte_append {a b : List Int} (ha : isByte a) (hb : isByte b) : isByte (a ++ b) := by
  intro x hx
  rcases List.mem_append.1 hx with h | h
  · exact ha x h
  · exact hb x h
theorem isByte_take {a : List Int} (n : Nat) (ha : isByte a) : isByte (a.take n) := fun x hx => ha x (List.mem_of_mem_take hx)
theorem isByte_drop {a : List Int} (n : Nat) (ha : isByte a) : isByte (a.drop n) := fun x hx => ha x (List.mem_of_mem_drop hx)
theorem isByte_nil : isByte [] := fun x hx => by cases hx
end Go.Proofs.Ytogjpilkgghidaa.Bytes
