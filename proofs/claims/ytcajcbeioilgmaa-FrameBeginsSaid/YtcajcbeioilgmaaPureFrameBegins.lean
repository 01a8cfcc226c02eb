/- FrameBegins: the bytes of any frames (at most 20, of at most 500 bytes each, are looked at), cut anywhere, tell just the frames that are whole. No condition. -/
import Derived.Test.YtcajcbeioilgmaaFrameBegin
import Derived.Test.YtcajcbeioilgmaaAskFrameBegins
import Derived.Test.YtcajcbeioilgmaaFx31
import Derived.Test.YtcajcbeioilgmaaFx32
namespace Go.Proofs.Ytcajcbeioilgmaa.Pure
open Go.RowKit Go.Proofs.Ytcajcbeioilgmaa.F Go.Proofs.Ytcajcbeioilgmaa.Frame Go.Proofs.Ytcajcbeioilgmaa.Octets Go.Proofs.Ytcajcbeioilgmaa.Bytes Go.Proofs.YtcajcbeioilgmaaW.PrintWords Go.Proofs.YtcajcbeioilgmaaW.PrintLast Go.Proofs.YtcajcbeioilgmaaW.PrintMore

def lightOf (x : S26) : S26 := ⟨x.f0, x.f1, x.f2.take 500⟩
theorem rdT (l : List S26) (i : Nat) (h : i < l.length) : rd_T26 l (i : Int) = l[i] := by simp [rd_T26, h]
theorem few_from (l : List S26) (d : Nat) : ∀ i : Nat, i + d = min l.length 20 → Ev (fun k => plinthlaw03_few.l0 k l ((l.take i).map lightOf) (i : Int)) ((l.take 20).map lightOf) := by
  induction d with
  | zero =>
    intro i h
    have e : l.take i = l.take 20 := by
      by_cases h20 : l.length ≤ 20
      · rw [List.take_of_length_le (by omega), List.take_of_length_le (by omega)]
      · rw [show i = 20 by omega]
    refine Ev.step (f := fun k => plinthlaw03_few.j1 k l ((l.take i).map lightOf) (i : Int) false) (fun k => ?_) (Ev.step (f := fun _ => some ((l.take 20).map lightOf)) (fun k => ?_) (Ev.now _))
    · rw [plinthlaw03_few.l0]
      by_cases hi : (i : Int) < l.length
      · rw [if_pos hi, decide_eq_false (by omega)]
      · rw [if_neg hi]
    · rw [plinthlaw03_few.j1, if_neg (by decide), e]
  | succ d ih =>
    intro i h
    have hi : i < l.length := by omega
    have hr := rdT l i hi
    have hm : ((l.take (i + 1)).map lightOf) = ((l.take i).map lightOf) ++ [lightOf l[i]] := by
      rw [List.take_succ_eq_append_getElem hi, List.map_append]
      rfl
    have hL : ((l.take i).map lightOf).length ≤ 20 := by
      rw [List.length_map, List.length_take]
      omega
    have hn := ih (i + 1) (by omega)
    rw [hm] at hn
    refine Ev.step (f := fun k => plinthlaw03_few.j1 k l ((l.take i).map lightOf) (i : Int) true) (fun k => ?_) (Ev.step (f := fun k => plinthlaw03_few.l0 k l ((l.take i).map lightOf ++ [lightOf l[i]]) ((i + 1 : Nat) : Int)) (fun k => ?_) hn)
    · rw [plinthlaw03_few.l0, if_pos (by omega), decide_eq_true (by omega)]
    · have hw : wrap64 ((i : Int) + 1) = ((i + 1 : Nat) : Int) := by rw [wrap_in _ (by omega) (by omega)]; omega
      rw [plinthlaw03_few.j1, if_pos rfl, if_pos (by omega), if_pos (by omega), hr, hw]
      by_cases hb : ((l[i].f2.length : Int) > 500)
      · rw [if_pos hb, if_pos (by omega), if_pos (by omega)]
        rfl
      · rw [if_neg hb, if_pos (by omega)]
        have e : l[i].f2 = l[i].f2.take 500 := (List.take_of_length_le (by omega)).symm
        have e2 : (⟨l[i].f0, l[i].f1, l[i].f2⟩ : S26) = lightOf l[i] := by
          unfold lightOf
          rw [← e]
        rw [e2]
theorem few_ (l : List S26) : Ev (fun k => plinthlaw03_few.f k l) ((l.take 20).map lightOf) := by
  unfold plinthlaw03_few.f
  exact few_from l (min l.length 20) 0 (by omega)
theorem whole_end (xs : List S26) (hx : ∀ x ∈ xs, Fits x) (hl : xs.length ≤ 20) (kN : Nat) (hkl : kN ≤ (catOf xs).length) (w : Nat) (hwl : w ≤ xs.length) (hk : (catOf (xs.take w)).length ≤ kN) (hw : w < xs.length → kN < (catOf (xs.take (w + 1))).length) :
    Ev (fun k => (frame_Scan.f k ((catOf xs).take ((kN : Int)).toNat)).bind fun bt => (plinthref03_SameAll.f k bt.1 (xs.take ((w : Int)).toNat)).bind fun t => if t = true then
      (if (w : Int) = 0 then (if bt.2 = 0 then some true else (if (w : Int) > 0 then (if 0 ≤ wrap64 ((w : Int) - 1) then (if wrap64 ((w : Int) - 1) < ((endsOf xs xs.length).length : Int) then some (bt.2 == rd (endsOf xs xs.length) (wrap64 ((w : Int) - 1))) else none) else none) else some false))
      else (if (w : Int) > 0 then (if 0 ≤ wrap64 ((w : Int) - 1) then (if wrap64 ((w : Int) - 1) < ((endsOf xs xs.length).length : Int) then some (bt.2 == rd (endsOf xs xs.length) (wrap64 ((w : Int) - 1))) else none) else none) else some false)) else some false) true := by
  have hc := cat_length xs hx
  have hS := Scan_ ((catOf xs).take kN) (isByte_take _ (isByte_cat xs hx)) (by rw [List.length_take]; omega)
  rw [all_cut xs hx kN w hwl hk hw hkl] at hS
  simp only [Int.toNat_natCast]
  refine Ev.bind hS ?_
  refine Ev.bind (same_all (xs.take w) (by rw [List.length_take]; omega)) ?_
  simp only [if_true]
  refine Ev.congr (f := fun _ => some true) (fun k => ?_) (Ev.now _)
  by_cases h0 : w = 0
  · subst h0
    rw [if_pos (show ((0 : Nat) : Int) = 0 from rfl), if_pos (show ((catOf (List.take 0 xs)).length : Int) = 0 by simp [catOf])]
  · have e : wrap64 ((w : Int) - 1) = ((w - 1 : Nat) : Int) := by rw [wrap_in _ (by omega) (by omega)]; omega
    rw [if_neg (by omega), if_pos (by omega), e, if_pos (by omega), if_pos (by rw [ends_length]; omega), ends_rd xs xs.length (w - 1) (by omega), show w - 1 + 1 = w by omega]
    simp
theorem whole_from (xs : List S26) (hx : ∀ x ∈ xs, Fits x) (hl : xs.length ≤ 20) (kN : Nat) (hkl : kN ≤ (catOf xs).length) (d : Nat) : ∀ i : Nat, i + d = xs.length → (catOf (xs.take i)).length ≤ kN →
    Ev (fun k => plinthlaw03_FrameBegins.l1 k xs (catOf xs) (endsOf xs xs.length) (kN : Int) (i : Int)) true := by
  induction d with
  | zero =>
    intro i h hk
    refine Ev.step (fun k => ?_) (whole_end xs hx hl kN hkl i (by omega) hk (by omega))
    rw [plinthlaw03_FrameBegins.l1, if_neg (by omega), if_pos (by omega), if_pos (by omega)]
    simp only [show (0 : Int) ≤ (i : Int) by omega, show (i : Int) ≤ (xs.length : Int) by omega, if_true]
  | succ d ih =>
    intro i h hk
    have hr := ends_rd xs xs.length i (by omega)
    by_cases hle : (catOf (xs.take (i + 1))).length ≤ kN
    · refine Ev.step (f := fun k => plinthlaw03_FrameBegins.l1 k xs (catOf xs) (endsOf xs xs.length) (kN : Int) ((i + 1 : Nat) : Int)) (fun k => ?_) (ih (i + 1) (by omega) hle)
      have hw : wrap64 ((i : Int) + 1) = ((i + 1 : Nat) : Int) := by rw [wrap_in _ (by omega) (by omega)]; omega
      rw [plinthlaw03_FrameBegins.l1, if_pos (by omega), if_pos (by omega), if_pos (by rw [ends_length]; omega), hr, if_pos (by omega), hw]
    · refine Ev.step (fun k => ?_) (whole_end xs hx hl kN hkl i (by omega) hk (by omega))
      rw [plinthlaw03_FrameBegins.l1, if_pos (by omega), if_pos (by omega), if_pos (by rw [ends_length]; omega), hr, if_neg (by omega), if_pos (by omega), if_pos (by omega)]
      simp only [show (i : Int) ≤ (xs.length : Int) by omega, if_true]
theorem begin_from (xs : List S26) (hx : ∀ x ∈ xs, Fits x) (hl : xs.length ≤ 20) (n : Int) (hn : 0 ≤ n ∧ n ≤ 65535) (d : Nat) : ∀ i : Nat, i + d = xs.length → Ev (fun k => plinthlaw03_FrameBegins.l0 k xs n (catOf (xs.take i)) (endsOf xs i) (i : Int)) true := by
  have hc := cat_length xs hx
  induction d with
  | zero =>
    intro i h
    obtain rfl : i = xs.length := by omega
    have hk : n.toNat % ((catOf xs).length + 1) ≤ (catOf xs).length := by
      have := Nat.mod_lt n.toNat (show 0 < (catOf xs).length + 1 by omega)
      omega
    refine Ev.step (fun k => ?_) (whole_from xs hx hl (n.toNat % ((catOf xs).length + 1)) hk xs.length 0 (by omega) (by simp [catOf]))
    have hw : wrap64 (((catOf xs).length : Int) + 1) = (((catOf xs).length + 1 : Nat) : Int) := by rw [wrap_in _ (by omega) (by omega)]; omega
    have hm : Int.tmod n (((catOf xs).length + 1 : Nat) : Int) = ((n.toNat % ((catOf xs).length + 1) : Nat) : Int) := by
      obtain ⟨m, rfl⟩ := Int.eq_ofNat_of_zero_le hn.1
      rw [Int.tmod_eq_emod_of_nonneg (by omega)]
      exact (Int.natCast_emod _ _).symm
    rw [plinthlaw03_FrameBegins.l0, if_neg (by omega), List.take_length, hw, if_neg (by omega), wrap_in n (by omega) (by omega), hm]
    rfl
  | succ d ih =>
    intro i h
    have hi : i < xs.length := by omega
    have hf := hx _ (List.getElem_mem hi)
    have hsh := hf.short
    have hs := cat_succ_length xs i hi
    have hmono := cat_mono xs (i + 1) xs.length (by omega)
    rw [List.take_length] at hmono
    have hnx := ih (i + 1) (by omega)
    have hW := Write_ xs[i].f0 xs[i].f1 xs[i].f2 hf.serial (by omega)
    rw [show writeOf xs[i].f0 xs[i].f1 xs[i].f2 = (Frame.bytesOf xs[i], 0) from by unfold writeOf; rw [if_neg (by omega)]; rfl] at hW
    have hw : wrap64 ((i : Int) + 1) = ((i + 1 : Nat) : Int) := by rw [wrap_in _ (by omega) (by omega)]; omega
    refine Ev.step (f := fun k => (frame_Write.f k xs[i].f0 xs[i].f1 xs[i].f2).bind fun bt => if bt.2 = 0 then (if (catOf (xs.take i)).length + bt.1.length < 140737488355328 then (some (catOf (xs.take i) ++ bt.1)).bind fun y => (if (endsOf xs i).length < 17592186044416 then plinthlaw03_FrameBegins.l0 k xs n y (endsOf xs i ++ [(y.length : Int)]) ((i + 1 : Nat) : Int) else none) else none) else some false) (fun k => ?_) ?_
    · rw [plinthlaw03_FrameBegins.l0, if_pos (by omega), if_pos (by omega), rdT xs i hi, hw]
    · refine Ev.bind hW ?_
      simp only [if_true, Option.bind_some, Frame.bytesOf_length, ends_length]
      simp only [show (catOf (xs.take i)).length + (xs[i].f2.length + 20) < 140737488355328 by omega, show i < 17592186044416 by omega, if_true]
      rw [ends_succ, catOf_succ xs i hi] at hnx
      exact hnx
theorem FrameBegins : plinthlaw03_FrameBegins.Pure := by
  rintro l n ⟨_, _, hl⟩ hn
  have hn' := bounds_u16 hn
  have hx : ∀ x ∈ (l.take 20).map lightOf, Fits x := by
    intro x hx
    obtain ⟨y, hy, rfl⟩ := List.mem_map.1 hx
    obtain ⟨h0, h1, _, _, h2⟩ := hl y (List.mem_of_mem_take hy)
    exact ⟨bounds_u8 h0, bounds_u64 h1, by unfold lightOf; rw [List.length_take]; omega, isByte_take _ (isByte_of h2)⟩
  refine Ev.rounds (g := fun k => plinthlaw03_FrameBegins.f k l n) ?_
  unfold plinthlaw03_FrameBegins.f
  refine Ev.bind awake ?_
  simp only [if_true]
  refine Ev.bind (few_ l) ?_
  exact begin_from _ hx (by rw [List.length_map, List.length_take]; omega) n hn' _ 0 (Nat.zero_add _)
end Go.Proofs.Ytcajcbeioilgmaa.Pure
