/- Frames' bytes in a row, cut anywhere: just the frames that are whole are told. -/
import Derived.Test.YtcajcbeioilgmaaFrameScan
namespace Go.Proofs.Ytcajcbeioilgmaa.Frame
open Go.RowKit Go.Proofs.Ytcajcbeioilgmaa.F Go.Proofs.Ytcajcbeioilgmaa.Octets Go.Proofs.Ytcajcbeioilgmaa.Bytes Go.Proofs.YtcajcbeioilgmaaW.PrintWords Go.Proofs.YtcajcbeioilgmaaW.PrintLast Go.Proofs.YtcajcbeioilgmaaW.PrintMore

def bytesOf (x : S26) : List Int := frameOf x.f0 x.f1 x.f2
def catOf (xs : List S26) : List Int := (xs.map bytesOf).flatten
theorem bytesOf_length (x : S26) : (bytesOf x).length = x.f2.length + 20 := frameOf_length _ _ _
theorem catOf_append (a b : List S26) : catOf (a ++ b) = catOf a ++ catOf b := by simp [catOf]
theorem catOf_cons (x : S26) (b : List S26) : catOf (x :: b) = bytesOf x ++ catOf b := by simp [catOf]
theorem catOf_split (xs : List S26) (i : Nat) : catOf xs = catOf (xs.take i) ++ catOf (xs.drop i) := by
  rw [← catOf_append, List.take_append_drop]
theorem catOf_succ (xs : List S26) (i : Nat) (h : i < xs.length) : catOf (xs.take (i + 1)) = catOf (xs.take i) ++ bytesOf xs[i] := by
  rw [List.take_succ_eq_append_getElem h, catOf_append, catOf_cons]
  simp [catOf]
theorem cat_succ_length (xs : List S26) (i : Nat) (h : i < xs.length) : (catOf (xs.take (i + 1))).length = (catOf (xs.take i)).length + (xs[i].f2.length + 20) := by
  rw [catOf_succ xs i h, List.length_append, bytesOf_length]
theorem cat_mono (xs : List S26) (i j : Nat) (h : i ≤ j) : (catOf (xs.take i)).length ≤ (catOf (xs.take j)).length := by
  have : xs.take j = xs.take i ++ (xs.drop i).take (j - i) := by
    rw [← List.take_add, show i + (j - i) = j by omega]
  rw [this, catOf_append, List.length_append]
  omega
theorem read_cut (x : S26) (m : Nat) (hl : x.f2.length ≤ 16777216) (hm : m < x.f2.length + 20) (a : Int) : (readAt ((bytesOf x).take m) a).2.2.2.2 ≠ 0 := by
  have hL : ((bytesOf x).take m).length = m := by rw [List.length_take, bytesOf_length]; omega
  unfold readAt
  by_cases h : m < 16
  · rw [if_pos (by omega)]
    decide
  · have hn : lengthOf ((bytesOf x).take m) = x.f2.length := by
      unfold lengthOf
      rw [drop_take_take _ _ _ _ (by omega)]
      have := lengthOf_frame x.f0 x.f1 x.f2 [] hl
      rw [List.append_nil] at this
      exact this
    rw [if_neg (by omega)]
    split
    · decide
    · rw [if_pos (by rw [hn, hL]; omega)]
      decide
theorem read_none (a : Int) : (readAt [] a).2.2.2.2 ≠ 0 := by
  unfold readAt
  rw [if_pos (by decide)]
  decide
structure Fits (x : S26) : Prop where
  kind : 0 ≤ x.f0 ∧ x.f0 ≤ 255
  serial : 0 ≤ x.f1 ∧ x.f1 ≤ 18446744073709551615
  short : x.f2.length ≤ 500
  bytes : isByte x.f2
theorem drop_cut (xs : List S26) (k i : Nat) : ((catOf xs).take k).drop (catOf (xs.take i)).length = (catOf (xs.drop i)).take (k - (catOf (xs.take i)).length) := by
  rw [List.drop_take]
  conv => lhs; arg 2; rw [catOf_split xs i]
  rw [List.drop_left]
theorem read_whole (xs : List S26) (hx : ∀ x ∈ xs, Fits x) (k i : Nat) (hi : i < xs.length) (hk : (catOf (xs.take (i + 1))).length ≤ k) (hkl : k ≤ (catOf xs).length) :
    readOf ((catOf xs).take k) ((catOf (xs.take i)).length : Int) = (xs[i].f0, xs[i].f1, xs[i].f2, ((catOf (xs.take (i + 1))).length : Int), 0) := by
  have hs := cat_succ_length xs i hi
  have hf := hx _ (List.getElem_mem hi)
  unfold readOf
  rw [if_neg (by rw [List.length_take]; omega), Int.toNat_natCast, drop_cut, List.drop_eq_getElem_cons hi, catOf_cons, List.take_append, List.take_of_length_le (by rw [bytesOf_length]; omega), bytesOf,
    read_frame _ _ _ _ hf.serial (by have := hf.short; omega), hs]
  simp
theorem read_part (xs : List S26) (hx : ∀ x ∈ xs, Fits x) (k w : Nat) (hk : (catOf (xs.take w)).length ≤ k) (hw : w < xs.length → k < (catOf (xs.take (w + 1))).length) (hkl : k ≤ (catOf xs).length) :
    (readOf ((catOf xs).take k) ((catOf (xs.take w)).length : Int)).2.2.2.2 ≠ 0 := by
  unfold readOf
  rw [if_neg (by rw [List.length_take]; omega), Int.toNat_natCast, drop_cut]
  by_cases h : w < xs.length
  · have hs := cat_succ_length xs w h
    have hf := hx _ (List.getElem_mem h)
    have hlt := hw h
    rw [List.drop_eq_getElem_cons h, catOf_cons, List.take_append, show k - (catOf (xs.take w)).length - (bytesOf xs[w]).length = 0 by rw [bytesOf_length]; omega, List.take_zero, List.append_nil]
    exact read_cut _ _ (by have := hf.short; omega) (by omega) _
  · rw [List.drop_of_length_le (by omega)]
    show (readAt (List.take _ []) _).2.2.2.2 ≠ 0
    rw [List.take_nil]
    exact read_none _
theorem scan_cut (xs : List S26) (hx : ∀ x ∈ xs, Fits x) (k w : Nat) (hwl : w ≤ xs.length) (hk : (catOf (xs.take w)).length ≤ k) (hw : w < xs.length → k < (catOf (xs.take (w + 1))).length) (hkl : k ≤ (catOf xs).length) (e : Nat) :
    ∀ (d i : Nat), i + e = w → e < d → scanOf d ((catOf xs).take k) (xs.take i) ((catOf (xs.take i)).length : Int) = (xs.take w, ((catOf (xs.take w)).length : Int)) := by
  induction e with
  | zero =>
    intro d i h hd
    obtain rfl : i = w := by omega
    cases d with
    | zero => omega
    | succ d =>
      unfold scanOf
      rw [if_neg (read_part xs hx k i hk hw hkl)]
  | succ e ih =>
    intro d i h hd
    cases d with
    | zero => omega
    | succ d =>
      have hi : i < xs.length := by omega
      have hr := read_whole xs hx k i hi (Nat.le_trans (cat_mono xs (i + 1) w (by omega)) hk) hkl
      unfold scanOf
      rw [hr]
      dsimp only
      rw [if_pos rfl, ← List.take_succ_eq_append_getElem hi]
      exact ih d (i + 1) (by omega) (by omega)
theorem cat_many (xs : List S26) (w : Nat) (h : w ≤ xs.length) : w ≤ (catOf (xs.take w)).length := by
  induction w with
  | zero => omega
  | succ w ih =>
    have := ih (by omega)
    rw [cat_succ_length xs w (by omega)]
    omega
theorem all_cut (xs : List S26) (hx : ∀ x ∈ xs, Fits x) (k w : Nat) (hwl : w ≤ xs.length) (hk : (catOf (xs.take w)).length ≤ k) (hw : w < xs.length → k < (catOf (xs.take (w + 1))).length) (hkl : k ≤ (catOf xs).length) :
    allOf ((catOf xs).take k) = (xs.take w, ((catOf (xs.take w)).length : Int)) := by
  have h := cat_many xs w hwl
  unfold allOf
  exact scan_cut xs hx k w hwl hk hw hkl w _ 0 (by omega) (by rw [List.length_take]; omega)
theorem cat_length (xs : List S26) (hx : ∀ x ∈ xs, Fits x) : (catOf xs).length ≤ 520 * xs.length := by
  induction xs with
  | nil => simp [catOf]
  | cons x xs ih =>
    have := ih (fun y hy => hx y (by simp [hy]))
    have h2 := (hx x (by simp)).short
    rw [catOf_cons, List.length_append, bytesOf_length, List.length_cons]
    omega
theorem isByte_cat (xs : List S26) (hx : ∀ x ∈ xs, Fits x) : isByte (catOf xs) := by
  induction xs with
  | nil => exact fun _ h => by cases h
  | cons x xs ih =>
    rw [catOf_cons]
    have h := hx x (by simp)
    exact isByte_append (isByte_frameOf h.kind h.bytes) (ih (fun y hy => hx y (by simp [hy])))
def endsOf (xs : List S26) (i : Nat) : List Int := (List.range i).map fun j => ((catOf (xs.take (j + 1))).length : Int)
theorem ends_length (xs : List S26) (i : Nat) : (endsOf xs i).length = i := by simp [endsOf]
theorem ends_succ (xs : List S26) (i : Nat) : endsOf xs (i + 1) = endsOf xs i ++ [((catOf (xs.take (i + 1))).length : Int)] := by simp [endsOf, List.range_succ]
theorem ends_rd (xs : List S26) (n i : Nat) (h : i < n) : rd (endsOf xs n) (i : Int) = ((catOf (xs.take (i + 1))).length : Int) := by
  rw [rd_nat _ _ (by rw [ends_length]; exact h)]
  simp [endsOf]
end Go.Proofs.Ytcajcbeioilgmaa.Frame
