/- The reference's Put, Get: what they answer. -/
import Derived.Test.YtcajcbeioilgmaaOctets
import Derived.Test.YtcajcbeioilgmaaFx19
import Derived.Test.YtcajcbeioilgmaaFx20
import Derived.Test.YtcajcbeioilgmaaFx8
namespace Go.Proofs.Ytcajcbeioilgmaa.Octets
open Go.RowKit Go.Proofs.Ytcajcbeioilgmaa.F Go.Proofs.Ytcajcbeioilgmaa.Bytes Go.Proofs.YtcajcbeioilgmaaW.PrintWords Go.Proofs.YtcajcbeioilgmaaW.PrintLast Go.Proofs.YtcajcbeioilgmaaW.PrintMore

theorem div_next (v : Int) (i : Nat) : v / 256 ^ i / 256 = v / 256 ^ (i + 1) := by
  rw [Int.pow_succ]
  exact Int.ediv_ediv_of_nonneg (Int.le_of_lt (pow_pos i))
theorem div_in (v : Int) (hv : 0 ≤ v ∧ v ≤ 18446744073709551615) (i : Nat) : 0 ≤ v / 256 ^ i ∧ v / 256 ^ i ≤ 18446744073709551615 :=
  ⟨Int.ediv_nonneg hv.1 (Int.le_of_lt (pow_pos i)), Int.le_trans (Int.ediv_le_self _ hv.1) hv.2⟩
theorem ref_fits_from (v : Int) (hv : 0 ≤ v ∧ v ≤ 18446744073709551615) (n : Nat) (hn : n ≤ 8) (d : Nat) : ∀ i : Nat, i + d = n →
    Ev (fun k => plinthref01_fits.l0 k (v / 256 ^ i) (n : Int) (i : Int)) (v / 256 ^ n == 0) := by
  induction d with
  | zero =>
    intro i h
    obtain rfl : i = n := by omega
    refine Ev.step (f := fun _ => some (v / 256 ^ i == 0)) (fun k => ?_) (Ev.now _)
    rw [plinthref01_fits.l0, if_neg (by omega)]
  | succ d ih =>
    intro i h
    have hq := div_in v hv i
    have hq2 := div_in v hv (i + 1)
    refine Ev.step (f := fun k => plinthref01_fits.l0 k (v / 256 ^ (i + 1)) (n : Int) ((i + 1 : Nat) : Int)) (fun k => ?_) (ih (i + 1) (by omega))
    rw [plinthref01_fits.l0, if_pos (by omega), Int.tdiv_eq_ediv_of_nonneg hq.1, div_next, u64_in _ hq2.1 hq2.2, wrap_next i n (by omega) (by omega)]
theorem div_zero_iff (v : Int) (hv : 0 ≤ v) (n : Nat) : v / 256 ^ n = 0 ↔ v < 256 ^ n := by
  constructor
  · intro h0
    have h1 := Int.emod_add_mul_ediv v (256 ^ n)
    have h2 := Int.emod_lt_of_pos v (pow_pos n)
    rw [h0, Int.mul_zero] at h1
    omega
  · intro h0
    exact Int.ediv_eq_zero_of_lt hv h0
theorem ref_fits (v : Int) (hv : 0 ≤ v ∧ v ≤ 18446744073709551615) (n : Nat) (hn : n ≤ 8) : Ev (fun k => plinthref01_fits.f k v (n : Int)) (decide (v < 256 ^ n)) := by
  have h := ref_fits_from v hv n hn n 0 (by omega)
  have e : decide (v < 256 ^ n) = (v / 256 ^ n == 0) := by
    have := div_zero_iff v hv.1 n
    by_cases h0 : v < 256 ^ n
    · rw [this.2 h0]
      simp [h0]
    · have h1 : ¬ v / 256 ^ n = 0 := fun z => h0 (this.1 z)
      simp [h1, h0]
  rw [e]
  refine Ev.congr (fun k => ?_) h
  rw [plinthref01_fits.f, Int.pow_zero, Int.ediv_one]
  rfl
theorem ref_put_from (v : Int) (hv : 0 ≤ v ∧ v ≤ 18446744073709551615) (n : Nat) (hn : n ≤ 8) (d : Nat) : ∀ (i : Nat) (b : List Int), i + d = n → (b ++ le v i).length + d < 140737488355328 →
    Ev (fun k => plinthref01_Put.l0 k (v / 256 ^ i) (n : Int) (b ++ le v i) (i : Int)) (b ++ le v n, 0) := by
  induction d with
  | zero =>
    intro i b h hb
    obtain rfl : i = n := by omega
    refine Ev.step (f := fun _ => some (b ++ le v i, 0)) (fun k => ?_) (Ev.now _)
    rw [plinthref01_Put.l0, if_neg (by omega)]
  | succ d ih =>
    intro i b h hb
    have hq := div_in v hv i
    have hq2 := div_in v hv (i + 1)
    refine Ev.step (f := fun k => plinthref01_Put.l0 k (v / 256 ^ (i + 1)) (n : Int) (b ++ le v (i + 1)) ((i + 1 : Nat) : Int)) (fun k => ?_) (ih (i + 1) b (by omega) ?_)
    · rw [plinthref01_Put.l0, if_pos (by omega), if_pos (by omega), Int.tdiv_eq_ediv_of_nonneg hq.1, Int.tmod_eq_emod_of_nonneg hq.1, div_next, u64_in _ hq2.1 hq2.2, wrap_next i n (by omega) (by omega), le_succ, List.append_assoc, Int.emod_emod_of_dvd _ (Int.dvd_refl 256)]
    · rw [List.length_append, le_length] at hb ⊢
      omega
theorem ref_Put (b : List Int) (v n : Int) (hv : 0 ≤ v ∧ v ≤ 18446744073709551615) (hb : b.length ≤ 140737488351232) : Ev (fun k => plinthref01_Put.f k b v n) (putOf b v n) := by
  unfold plinthref01_Put.f putOf
  by_cases hn : n < 1 ∨ 8 < n
  · rw [if_pos hn]
    refine Ev.congr (f := fun k => plinthref01_Put.j0 k b v n true) (fun k => ?_) (Ev.step (f := fun _ => some ([], 1)) (fun k => by rw [plinthref01_Put.j0, if_pos rfl]) (Ev.now _))
    by_cases h1 : n < 1
    · rw [if_pos h1]
    · rw [if_neg h1, decide_eq_true (by omega)]
  · rw [if_neg hn]
    obtain ⟨m, rfl⟩ : ∃ m : Nat, n = (m : Int) := ⟨n.toNat, by omega⟩
    refine Ev.congr (f := fun k => plinthref01_Put.j0 k b v (m : Int) false) (fun k => by rw [if_neg (by omega), decide_eq_false (by omega)]) ?_
    have hF := ref_fits v hv m (by omega)
    have h := ref_put_from v hv m (by omega) m 0 b (by omega) (by rw [le_zero, List.append_nil]; omega)
    refine Ev.step (f := fun k => (plinthref01_fits.f k v (m : Int)).bind fun t => if t = true then plinthref01_Put.l0 k v (m : Int) b 0 else some ([], 5)) (fun k => ?_) ?_
    · rw [plinthref01_Put.j0, if_neg (by decide)]
      simp only [Option.bind_some, List.nil_append, List.length_nil]
      rw [if_pos (by omega)]
    · refine Ev.bind hF ?_
      rw [Int.toNat_natCast]
      by_cases hf : v < 256 ^ m
      · simp only [hf, decide_true, if_true]
        rw [le_zero, List.append_nil, Int.pow_zero, Int.ediv_one] at h
        exact h
      · simp only [hf, decide_false, if_false, Bool.false_eq_true]
        exact Ev.now _
theorem ref_get_from (b : List Int) (a n : Int) (hb : isByte b) (x m : Nat) (hx : a = (x : Int)) (hm : m ≤ 8) (hl : x + m ≤ b.length) (hL : b.length ≤ 140737488355328) (d : Nat) : ∀ i : Nat, i + d = m → 
    Ev (fun k => plinthref01_Get.l0 k b a n (val (((b.drop x).take m).drop d)) ((d : Int) - 1)) (val ((b.drop x).take m), wrap64 (a + n), 0) := by
  induction d with
  | zero =>
    intro i h
    refine Ev.step (f := fun _ => some (val ((b.drop x).take m), wrap64 (a + n), 0)) (fun k => ?_) (Ev.now _)
    rw [plinthref01_Get.l0, if_neg (by omega)]
    rfl
  | succ d ih =>
    intro i h
    have hyl : ((b.drop x).take m).length = m := by rw [List.length_take, List.length_drop]; omega
    have hd : d < ((b.drop x).take m).length := by omega
    have hy : isByte ((b.drop x).take m) := isByte_take _ (isByte_drop _ hb)
    have hrd : rd b ((x + d : Nat) : Int) = rd ((b.drop x).take m) (d : Int) := by
      rw [rd_nat b (x + d) (by omega), rd_nat _ d hd, List.getElem_take, List.getElem_drop]
    have hc := rd_byte hy d hd
    have hr := val_range (isByte_drop (d + 1) hy)
    rw [List.length_drop, hyl] at hr
    have hp := pow_mono (show m - (d + 1) ≤ 7 by omega)
    have hv : val (((b.drop x).take m).drop (d + 1)) < 72057594037927936 := Int.lt_of_lt_of_le hr.2 hp
    have e1 : wrap64 (a + (((d + 1 : Nat) : Int) - 1)) = ((x + d : Nat) : Int) := by rw [wrap_in _ (by omega) (by omega)]; omega
    have e2 : wrap64 (((d + 1 : Nat) : Int) - 1 - 1) = (d : Int) - 1 := by rw [wrap_in _ (by omega) (by omega)]; omega
    refine Ev.step (f := fun k => plinthref01_Get.l0 k b a n (val (((b.drop x).take m).drop d)) ((d : Int) - 1)) (fun k => ?_) (ih (i + 1) (by omega))
    rw [plinthref01_Get.l0, if_pos (by omega), e1, e2, if_pos (by omega), if_pos (by omega), hrd, u64_in (val _ * 256) (by omega) (by omega), u64_in (rd _ _) (by omega) (by omega), u64_in _ (by omega) (by omega), drop_rd _ d hd, val]
    congr 1
    omega
theorem ref_Get (b : List Int) (a n : Int) (hb : isByte b) (hl : b.length ≤ 140737488355328) : Ev (fun k => plinthref01_Get.f k b a n) (getOf b a n) := by
  unfold plinthref01_Get.f getOf
  by_cases hn : n < 1 ∨ 8 < n
  · rw [if_pos hn]
    refine Ev.congr (f := fun k => plinthref01_Get.j0 k b a n true) (fun k => ?_) (Ev.step (f := fun _ => some (0, 0, 1)) (fun k => by rw [plinthref01_Get.j0, if_pos rfl]) (Ev.now _))
    by_cases h1 : n < 1
    · rw [if_pos h1]
    · rw [if_neg h1, decide_eq_true (by omega)]
  · rw [if_neg hn]
    refine Ev.congr (f := fun k => plinthref01_Get.j0 k b a n false) (fun k => by rw [if_neg (by omega), decide_eq_false (by omega)]) ?_
    by_cases h0 : a < 0 ∨ (b.length : Int) < a
    · rw [if_pos h0]
      refine Ev.step (f := fun k => plinthref01_Get.j1 k b a n true) (fun k => ?_) (Ev.step (f := fun _ => some (0, 0, 5)) (fun k => by rw [plinthref01_Get.j1, if_pos rfl]) (Ev.now _))
      rw [plinthref01_Get.j0, if_neg (by decide)]
      by_cases h1 : a < 0
      · rw [if_pos h1]
      · rw [if_neg h1, decide_eq_true (by omega)]
    · rw [if_neg h0]
      refine Ev.step (f := fun k => plinthref01_Get.j1 k b a n false) (fun k => by rw [plinthref01_Get.j0, if_neg (by decide), if_neg (by omega), decide_eq_false (by omega)]) ?_
      have hw : wrap64 ((b.length : Int) - a) = (b.length : Int) - a := wrap_in _ (by omega) (by omega)
      by_cases h2 : (b.length : Int) - a < n
      · rw [if_pos h2]
        refine Ev.step (f := fun _ => some (0, 0, 10)) (fun k => ?_) (Ev.now _)
        rw [plinthref01_Get.j1, if_neg (by decide), hw, if_pos h2]
      · rw [if_neg h2]
        have h := ref_get_from b a n hb a.toNat n.toNat (by omega) (by omega) (by omega) hl n.toNat 0 (by omega)
        rw [List.drop_of_length_le (by rw [List.length_take]; omega), wrap_in (a + n) (by omega) (by omega)] at h
        refine Ev.step (fun k => ?_) h
        rw [plinthref01_Get.j1, if_neg (by decide), hw, if_neg h2, wrap_in (n - 1) (by omega) (by omega)]
        show plinthref01_Get.l0 k b a n 0 (n - 1) = plinthref01_Get.l0 k b a n 0 _
        congr 1
        omega
end Go.Proofs.Ytcajcbeioilgmaa.Octets
