import Derived.Test.YtogjpilkgghidaaPlain
import Derived.Test.YtogjpilkgghidaaFx17
import Derived.Test.YtogjpilkgghidaaFx18
import Derived.Test.YtogjpilkgghidaaFx20
import Derived.Test.YtogjpilkgghidaaFx19
import Derived.Test.YtogjpilkgghidaaFx21
import Derived.Test.YtogjpilkgghidaaFx22
import Derived.Test.YtogjpilkgghidaaFx28
import Derived.Test.YtogjpilkgghidaaFx29
/- The reference's Put, Get: what they answer. -/
namespace Go.Proofs.Ytogjpilkgghidaa.Octets
open Go.RowKit Go.Proofs.Ytogjpilkgghidaa.F Go.Proofs.Ytogjpilkgghidaa.Bytes Go.Proofs.YtogjpilkgghidaaW.PrintWords Go.Proofs.YtogjpilkgghidaaW.PrintLast Go.Proofs.YtogjpilkgghidaaW.PrintMore

theorem div_next (v : Int) (i : Nat) : v / 256 ^ i / 256 = v / 256 ^ (i + 1) := by
  rw [Int.pow_succ]
  exact Int.ediv_ediv_of_nonneg (Int.le_of_lt (pow_pos i))
theorem div_in (v : Int) (hv : 0 ≤ v ∧ v ≤ 18446744073709551615) (i : Nat) : 0 ≤ v / 256 ^ i ∧ v / 256 ^ i ≤ 18446744073709551615 :=
  ⟨Int.ediv_nonneg hv.1 (Int.le_of_lt (pow_pos i)), Int.le_trans (Int.ediv_le_self _ hv.1) hv.2⟩
theorem ref_fits_from (v : Int) (hv : 0 ≤ v ∧ v ≤ 18446744073709551615) (n : Nat) (hn : n ≤ 8) (d : Nat) : ∀ i : Nat, i + d = n →
    Ev (fun k => plinthref01_fits.l0 k (v / 256 ^ i) (n : Int) (i : Int)) (v / 256 ^ n == 0) := by
  induction d with
  | zero =>
    intro i h
    obtain rfl : i = n := by omega
    refine Ev.step (f := fun _ => some (v / 256 ^ i == 0)) (fun k => ?_) (Ev.now _)
    rw [plinthref01_fits.l0, if_neg (by omega)]
  | succ d ih =>
    intro i h
    have hq := div_in v hv i
    have hq2 := div_in v hv (i + 1)
    refine Ev.step (f := fun k => plinthref01_fits.l0 k (v / 256 ^ (i + 1)) (n : Int) ((i + 1 : Nat) : Int)) (fun k => ?_) (ih (i + 1) (by omega))
    rw [plinthref01_fits.l0, if_pos (by omega), Int.tdiv_eq_ediv_of_nonneg hq.1, div_next, u64_in _ hq2.1 hq2.2, wrap_next i n (by omega) (by omega)]
theorem div_zero_iff (v : Int) (hv : 0 ≤ v) (n : Nat) : v / 256 ^ n = 0 ↔ v < 256 ^ n := by
  constructor
  · intro h0
    have h1 := Int.emod_add_mul_ediv v (256 ^ n)
    have h2 := Int.emod_lt_of_pos v (pow_pos n)
    rw [h0, Int.mul_zero] at h1
    omega
  · intro h0
    exact Int.ediv_eq_zero_of_lt hv h0
theorem ref_fits (v : Int) (hv : 0 ≤ v ∧ v ≤ 18446744073709551615) (n : Nat) (hn : n ≤ 8) : Ev (fun k => plinthref01_fits.f k v (n : Int)) (decide (v < 256 ^ n)) := by
  have h := ref_fits_from v hv n hn n 0 (by omega)
  have e : decide (v < 256 ^ n) = (v / 256 ^ n == 0) := by
    have := div_zero_iff v hv.1 n
    by_cases h0 : v < 256 ^ n
    · rw [this.2 h0]
      simp [h0]
    · have h1 : ¬ v / 256 ^ n = 0 := fun z => h0 (this.1 z)
      simp [h1, h0]
  rw [e]
  refine Ev.congr (fun k => ?_) h
  rw [plinthref01_fits.f, Int.pow_zero, Int.ediv_one]
  rfl
theorem ref_put_from (v : Int) (hv : 0 ≤ v ∧ v ≤ 18446744073709551615) (n : Nat) (hn : n ≤ 8) (d : Nat) : ∀ (i : Nat) (b : List Int), i + d = n → (b ++ le v i).length + d < 140737488355328 →
    Ev (fun k => plinthref01_Put.l0 k (v / 256 ^ i) (n : Int) (b ++ le v i) (i : Int)) (b ++ le v n, 0) := by
  induction d with
  | zero =>
    intro i b h hb
    obtain rfl : i = n := by omega
    refine Ev.step (f := fun _ => some (b ++ le v i, 0)) (fun k => ?_) (Ev.now _)
    rw [plinthref01_Put.l0, if_neg (by omega)]
  | succ d ih =>
    intro i b h hb
    have hq := div_in v hv i
    have hq2 := div_in v hv (i + 1)
    refine Ev.step (f := fun k => plinthref01_Put.l0 k (v / 256 ^ (i + 1)) (n : Int) (b ++ le v (i + 1)) ((i + 1 : Nat) : Int)) (fun k => ?_) (ih (i + 1) b (by omega) ?_)
    · rw [plinthref01_Put.l0, if_pos (by omega), if_pos (by omega), Int.tdiv_eq_ediv_of_nonneg hq.1, Int.tmod_eq_emod_of_nonneg hq.1, div_next, u64_in _ hq2.1 hq2.2, wrap_next i n (by omega) (by omega), le_succ, List.append_assoc, Int.emod_emod_of_dvd _ (Int.dvd_refl 256)]
    · rw [List.length_append, le_length] at hb ⊢
      omega
theorem ref_Put (b : List Int) (v n : Int) (hv : 0 ≤ v ∧ v ≤ 18446744073709551615) (hb : b.length ≤ 140737488351232) : Ev (fun k => plinthref01_Put.f k b v n) (putOf b v n) := by
  unfold plinthref01_Put.f putOf
  by_cases hn : n < 1 ∨ 8 < n
  · rw [if_pos hn]
    refine Ev.congr (f := fun k => plinthref01_Put.j0 k b v n true) (fun k => ?_) (Ev.step (f := fun _ => some ([], 1)) (fun k => by rw [plinthref01_Put.j0, if_pos rfl]) (Ev.now _))
    by_cases h1 : n < 1
    · rw [if_pos h1]
    · rw [if_neg h1, decide_eq_true (by omega)]
  · rw [if_neg hn]
    obtain ⟨m, rfl⟩ : ∃ m : Nat, n = (m : Int) := ⟨n.toNat, by omega⟩
    refine Ev.congr (f := fun k => plinthref01_Put.j0 k b v (m : Int) false) (fun k => by rw [if_neg (by omega), decide_eq_false (by omega)]) ?_
    have hF := ref_fits v hv m (by omega)
    have h := ref_put_from v hv m (by omega) m 0 b (by omega) (by rw [le_zero, List.append_nil]; omega)
    refine Ev.step (f := fun k => (plinthref01_fits.f k v (m : Int)).bind fun t => if t = true then plinthref01_Put.l0 k v (m : Int) b 0 else some ([], 5)) (fun k => ?_) ?_
    · rw [plinthref01_Put.j0, if_neg (by decide)]
      simp only [Option.bind_some, List.nil_append, List.length_nil]
      rw [if_pos (by omega)]
    · refine Ev.bind hF ?_
      rw [Int.toNat_natCast]
      by_cases hf : v < 256 ^ m
      · simp only [hf, decide_true, if_true]
        rw [le_zero, List.append_nil, Int.pow_zero, Int.ediv_one] at h
        exact h
      · simp only [hf, decide_false, if_false, Bool.false_eq_true]
        exact Ev.now _
theorem ref_get_from (b : List Int) (a n : Int) (hb : isByte b) (x m : Nat) (hx : a = (x : Int)) (hm : m ≤ 8) (hl : x + m ≤ b.length) (hL : b.length ≤ 140737488355328) (d : Nat) : ∀ i : Nat, i + d = m → 
    Ev (fun k => plinthref01_Get.l0 k b a n (val (((b.drop x).take m).drop d)) ((d : Int) - 1)) (val ((b.drop x).take m), wrap64 (a + n), 0) := by
  induction d with
  | zero =>
    intro i h
    refine Ev.step (f := fun _ => some (val ((b.drop x).take m), wrap64 (a + n), 0)) (fun k => ?_) (Ev.now _)
    rw [plinthref01_Get.l0, if_neg (by omega)]
    rfl
  | succ d ih =>
    intro i h
    have hyl : ((b.drop x).take m).length = m := by rw [List.length_take, List.length_drop]; omega
    have hd : d < ((b.drop x).take m).length := by omega
    have hy : isByte ((b.drop x).take m) := isByte_take _ (isByte_drop _ hb)
    have hrd : rd b ((x + d : Nat) : Int) = rd ((b.drop x).take m) (d : Int) := by
      rw [rd_nat b (x + d) (by omega), rd_nat _ d hd, List.getElem_take, List.getElem_drop]
    have hc := rd_byte hy d hd
    have hr := val_range (isByte_drop (d + 1) hy)
    rw [List.length_drop, hyl] at hr
    have hp := pow_mono (show m - (d + 1) ≤ 7 by omega)
    have hv : val (((b.drop x).take m).drop (d + 1)) < 72057594037927936 := Int.lt_of_lt_of_le hr.2 hp
    have e1 : wrap64 (a + (((d + 1 : Nat) : Int) - 1)) = ((x + d : Nat) : Int) := by rw [wrap_in _ (by omega) (by omega)]; omega
    have e2 : wrap64 (((d + 1 : Nat) : Int) - 1 - 1) = (d : Int) - 1 := by rw [wrap_in _ (by omega) (by omega)]; omega
    refine Ev.step (f := fun k => plinthref01_Get.l0 k b a n (val (((b.drop x).take m).drop d)) ((d : Int) - 1)) (fun k => ?_) (ih (i + 1) (by omega))
    rw [plinthref01_Get.l0, if_pos (by omega), e1, e2, if_pos (by omega), if_pos (by omega), hrd, u64_in (val _ * 256) (by omega) (by omega), u64_in (rd _ _) (by omega) (by omega), u64_in _ (by omega) (by omega), drop_rd _ d hd, val]
    congr 1
    omega
theorem ref_Get (b : List Int) (a n : Int) (hb : isByte b) (hl : b.length ≤ 140737488355328) : Ev (fun k => plinthref01_Get.f k b a n) (getOf b a n) := by
  unfold plinthref01_Get.f getOf
  by_cases hn : n < 1 ∨ 8 < n
  · rw [if_pos hn]
    refine Ev.congr (f := fun k => plinthref01_Get.j0 k b a n true) (fun k => ?_) (Ev.step (f := fun _ => some (0, 0, 1)) (fun k => by rw [plinthref01_Get.j0, if_pos rfl]) (Ev.now _))
    by_cases h1 : n < 1
    · rw [if_pos h1]
    · rw [if_neg h1, decide_eq_true (by omega)]
  · rw [if_neg hn]
    refine Ev.congr (f := fun k => plinthref01_Get.j0 k b a n false) (fun k => by rw [if_neg (by omega), decide_eq_false (by omega)]) ?_
    by_cases h0 : a < 0 ∨ (b.length : Int) < a
    · rw [if_pos h0]
      refine Ev.step (f := fun k => plinthref01_Get.j1 k b a n true) (fun k => ?_) (Ev.step (f := fun _ => some (0, 0, 5)) (fun k => by rw [plinthref01_Get.j1, if_pos rfl]) (Ev.now _))
      rw [plinthref01_Get.j0, if_neg (by decide)]
      by_cases h1 : a < 0
      · rw [if_pos h1]
      · rw [if_neg h1, decide_eq_true (by omega)]
    · rw [if_neg h0]
      refine Ev.step (f := fun k => plinthref01_Get.j1 k b a n false) (fun k => by rw [plinthref01_Get.j0, if_neg (by decide), if_neg (by omega), decide_eq_false (by omega)]) ?_
      have hw : wrap64 ((b.length : Int) - a) = (b.length : Int) - a := wrap_in _ (by omega) (by omega)
      by_cases h2 : (b.length : Int) - a < n
      · rw [if_pos h2]
        refine Ev.step (f := fun _ => some (0, 0, 10)) (fun k => ?_) (Ev.now _)
        rw [plinthref01_Get.j1, if_neg (by decide), hw, if_pos h2]
      · rw [if_neg h2]
        have h := ref_get_from b a n hb a.toNat n.toNat (by omega) (by omega) (by omega) hl n.toNat 0 (by omega)
        rw [List.drop_of_length_le (by rw [List.length_take]; omega), wrap_in (a + n) (by omega) (by omega)] at h
        refine Ev.step (fun k => ?_) h
        rw [plinthref01_Get.j1, if_neg (by decide), hw, if_neg h2, wrap_in (n - 1) (by omega) (by omega)]
        show plinthref01_Get.l0 k b a n 0 (n - 1) = plinthref01_Get.l0 k b a n 0 _
        congr 1
        omega
end Go.Proofs.Ytogjpilkgghidaa.Octets

/- The reference's PutText: what it answers. -/
namespace Go.Proofs.Ytogjpilkgghidaa.Octets
open Go.RowKit Go.Proofs.Ytogjpilkgghidaa.F Go.Proofs.Ytogjpilkgghidaa.Bytes Go.Proofs.YtogjpilkgghidaaW.PrintWords Go.Proofs.YtogjpilkgghidaaW.PrintLast Go.Proofs.YtogjpilkgghidaaW.PrintMore

theorem ref_PutText (b s : List Int) (hb : b.length + s.length ≤ 140737488355000) (hb2 : b.length ≤ 140737488351232) : Ev (fun k => plinthref01_PutText.f k b s) (putTextOf b s) := by
  unfold plinthref01_PutText.f putTextOf
  by_cases hs : 16777216 < s.length
  · rw [if_pos hs]
    exact Ev.congr (f := fun _ => some ([], 2)) (fun k => by rw [if_pos (by omega)]) (Ev.now _)
  · rw [if_neg hs]
    have h := ref_Put b (s.length : Int) 4 (by omega) hb2
    have hp : putOf b (s.length : Int) 4 = (b ++ le (s.length : Int) 4, 0) := by
      unfold putOf
      rw [if_neg (by omega), if_pos (show (s.length : Int) < 256 ^ (4 : Int).toNat from by
        have : (256 : Int) ^ (4 : Int).toNat = 4294967296 := rfl
        omega)]
      rfl
    rw [hp] at h
    refine Ev.congr (f := fun k => (plinthref01_Put.f k b (s.length : Int) 4).bind fun t => if t.1.length + s.length < 140737488355328 then some (t.1 ++ s, 0) else none) (fun k => by rw [if_neg (by omega), u64_in _ (by omega) (by omega)]) ?_
    refine Ev.bind h ?_
    refine Ev.congr (f := fun _ => some (b ++ le (s.length : Int) 4 ++ s, 0)) (fun k => ?_) (Ev.now _)
    dsimp only
    rw [if_pos (by rw [List.length_append, le_length]; omega)]
end Go.Proofs.Ytogjpilkgghidaa.Octets

/- The reference's GetText: what it answers. -/
namespace Go.Proofs.Ytogjpilkgghidaa.Octets
open Go.RowKit Go.Proofs.Ytogjpilkgghidaa.F Go.Proofs.Ytogjpilkgghidaa.Bytes Go.Proofs.YtogjpilkgghidaaW.PrintWords Go.Proofs.YtogjpilkgghidaaW.PrintLast Go.Proofs.YtogjpilkgghidaaW.PrintMore

theorem ref_GetText (b : List Int) (a : Int) (hb : isByte b) (hl : b.length ≤ 140737488351232) : Ev (fun k => plinthref01_GetText.f k b a) (getTextOf b a) := by
  have hG := ref_Get b a 4 hb (by omega)
  have hok := @getOf_ok b a 4 hb
  unfold plinthref01_GetText.f getTextOf
  refine Ev.bind hG ?_
  generalize getOf b a 4 = g at *
  obtain ⟨n, x, e⟩ := g
  dsimp only at hok ⊢
  by_cases he : e = 0
  · obtain ⟨_, _, ha, hn, hx, h0, h1⟩ := hok he
    simp only [he, if_true, ne_eq, not_true_eq_false, if_false]
    have h1' : n < 4294967296 := h1
    by_cases hbig : n > 16777216
    · simp only [if_pos hbig]
      exact Ev.now _
    · simp only [if_neg hbig]
      have hw : wrap64 ((b.length : Int) - x) = (b.length : Int) - x := wrap_in _ (by omega) (by omega)
      rw [wrap_in n (by omega) (by omega), hw, wrap_in (x + n) (by omega) (by omega)]
      by_cases hs : (b.length : Int) - x < n
      · simp only [if_pos hs]
        exact Ev.now _
      · simp only [if_neg hs, Option.bind_some, List.nil_append, List.length_nil]
        rw [if_pos (by omega), if_pos (by omega), if_pos (by omega), show (x + n).toNat = x.toNat + n.toNat by omega, cut_text, if_pos (by rw [List.length_take]; omega)]
        exact Ev.now _
  · simp only [he, if_false, ne_eq, not_false_eq_true, if_true]
    exact Ev.now _
end Go.Proofs.Ytogjpilkgghidaa.Octets

/- Requests and results as bytes: what EncodeOp, DecodeOp, EncodeResult, DecodeResult answer, the program's and the reference's. -/
namespace Go.Proofs.Ytogjpilkgghidaa.Block
open Go.RowKit Go.Proofs.Ytogjpilkgghidaa.F Go.Proofs.Ytogjpilkgghidaa.Bytes Go.Proofs.Ytogjpilkgghidaa.Octets Go.Proofs.YtogjpilkgghidaaW.PrintWords Go.Proofs.YtogjpilkgghidaaW.PrintLast Go.Proofs.YtogjpilkgghidaaW.PrintMore

/-! ### bytes of requests and results -/
def opBytes (kind at_ n : Int) (data old : List Int) : List Int := [kind] ++ (le at_ 4 ++ (le n 4 ++ (le (data.length : Int) 4 ++ (data ++ (le (old.length : Int) 4 ++ old)))))
def encOp (kind at_ n : Int) (data old : List Int) : List Int × Int := if okForm kind at_ n data old then (opBytes kind at_ n data old, 0) else ([], 41)
def resBytes (code : Int) (data : List Int) : List Int := [code] ++ (le (data.length : Int) 4 ++ data)
def encRes (code : Int) (data : List Int) : List Int × Int := if okResult code data then (resBytes code data, 0) else ([], 42)
theorem opBytes_length (kind at_ n : Int) (data old : List Int) : (opBytes kind at_ n data old).length = 17 + data.length + old.length := by
  simp only [opBytes, List.length_append, le_length, List.length_cons, List.length_nil]
  omega
theorem resBytes_length (code : Int) (data : List Int) : (resBytes code data).length = 5 + data.length := by
  simp only [resBytes, List.length_append, le_length, List.length_cons, List.length_nil]
  omega
theorem p256_4 : (256 : Int) ^ 4 = 4294967296 := rfl
theorem putText_in (b s : List Int) (h : s.length ≤ 16777216) : putTextOf b s = (b ++ le (s.length : Int) 4 ++ s, 0) := by
  unfold putTextOf
  rw [if_neg (by omega)]
theorem EncodeOp_ (kind at_ n : Int) (data old : List Int) : Ev (fun k => block_EncodeOp.f k kind at_ n data old) (encOp kind at_ n data old) := by
  unfold block_EncodeOp.f encOp
  rw [Form_]
  simp only [Option.bind_some, formOf]
  by_cases h : okForm kind at_ n data old
  · have h' := h
    unfold okForm at h'
    obtain ⟨a0, a1, n0, n1, hd, ho, -⟩ := h'
    simp only [if_pos h, if_true]
    rw [u64_in at_ (by omega) (by omega), u64_in n (by omega) (by omega)]
    have hp := putAll_ [kind] 4 [at_, n] (by omega) (by intro v hv; simp only [List.mem_cons, List.not_mem_nil, or_false] at hv; rcases hv with rfl | rfl <;> omega) (by simp) (by simp)
    have e : putAllOf [kind] 4 [at_, n] = ([kind] ++ le at_ 4 ++ le n 4, 0) := by
      simp only [putAllOf]
      rw [p256_4, if_pos (by omega), if_pos (by omega)]
    rw [e] at hp
    refine Ev.bind hp ?_
    refine Ev.bind (PutText_ _ data (by simp only [List.length_append, le_length, List.length_cons, List.length_nil]; omega)) ?_
    rw [putText_in _ data (by omega)]
    refine Ev.bind (PutText_ _ old (by simp only [List.length_append, le_length, List.length_cons, List.length_nil]; omega)) ?_
    rw [putText_in _ old (by omega)]
    simp only [opBytes, List.append_assoc]
    exact Ev.now _
  · simp only [if_neg h]
    exact Ev.now _
theorem ref_EncodeOp (kind at_ n : Int) (data old : List Int) (hd : data.length ≤ 140737488351232) (ho : old.length ≤ 140737488351232) : Ev (fun k => plinthref04_EncodeOp.f k kind at_ n data old) (encOp kind at_ n data old) := by
  unfold plinthref04_EncodeOp.f encOp
  refine Ev.bind (ref_Form kind at_ n data old (by omega) (by omega)) ?_
  simp only [formOf]
  by_cases h : okForm kind at_ n data old
  · have h' := h
    unfold okForm at h'
    obtain ⟨a0, a1, n0, n1, hd, ho, -⟩ := h'
    simp only [if_pos h, if_true]
    rw [u64_in at_ (by omega) (by omega), u64_in n (by omega) (by omega)]
    have put4 : ∀ (b : List Int) (v : Int), v < 4294967296 → putOf b v 4 = (b ++ le v 4, 0) := by
      intro b v hv
      unfold putOf
      rw [if_neg (by omega), if_pos (show v < 256 ^ (4 : Int).toNat from hv)]
      rfl
    refine Ev.bind (ref_Put [kind] at_ 4 (by omega) (by simp)) ?_
    rw [put4 _ _ (by omega)]
    refine Ev.bind (ref_Put _ n 4 (by omega) (by simp only [List.length_append, le_length, List.length_cons, List.length_nil]; omega)) ?_
    rw [put4 _ _ (by omega)]
    refine Ev.bind (ref_PutText _ data (by simp only [List.length_append, le_length, List.length_cons, List.length_nil]; omega) (by simp only [List.length_append, le_length, List.length_cons, List.length_nil]; omega)) ?_
    rw [putText_in _ data (by omega)]
    refine Ev.bind (ref_PutText _ old (by simp only [List.length_append, le_length, List.length_cons, List.length_nil]; omega) (by simp only [List.length_append, le_length, List.length_cons, List.length_nil]; omega)) ?_
    rw [putText_in _ old (by omega)]
    simp only [opBytes, List.append_assoc]
    exact Ev.now _
  · simp only [if_neg h]
    exact Ev.now _
theorem EncodeResult_ (code : Int) (data : List Int) : Ev (fun k => block_EncodeResult.f k code data) (encRes code data) := by
  unfold block_EncodeResult.f encRes
  refine Ev.bind (Result_ code data) ?_
  simp only [resultOf]
  by_cases h : okResult code data
  · have h' := h
    unfold okResult at h'
    simp only [if_pos h, if_true]
    refine Ev.bind (PutText_ [code] data (by simp only [List.length_cons, List.length_nil]; omega)) ?_
    rw [putText_in _ data (by omega)]
    simp only [resBytes, List.append_assoc]
    exact Ev.now _
  · simp only [if_neg h]
    exact Ev.now _
theorem ref_EncodeResult (code : Int) (data : List Int) : Ev (fun k => plinthref04_EncodeResult.f k code data) (encRes code data) := by
  unfold plinthref04_EncodeResult.f encRes
  refine Ev.bind (ref_Result code data) ?_
  simp only [resultOf]
  by_cases h : okResult code data
  · have h' := h
    unfold okResult at h'
    simp only [if_pos h, if_true]
    refine Ev.bind (ref_PutText [code] data (by simp only [List.length_cons, List.length_nil]; omega) (by simp)) ?_
    rw [putText_in _ data (by omega)]
    simp only [resBytes, List.append_assoc]
    exact Ev.now _
  · simp only [if_neg h]
    exact Ev.now _

/-! ### what bytes tell -/
def brk (e : Int) : Int := if e = 10 then 10 else 42
theorem brk_ne (e : Int) : brk e ≠ 0 := by
  unfold brk
  split <;> decide
def numberOf (b : List Int) (a e n : Int) : Int × Int × Int := if e = 0 then (if (getOf b a n).2.2 = 0 then (wrap64 (getOf b a n).1, (getOf b a n).2.1, 0) else (0, a, (getOf b a n).2.2)) else (0, a, e)
def textOf (b : List Int) (a e : Int) : List Int × Int × Int := if e = 0 then (if (getTextOf b a).2.2 = 0 then ((getTextOf b a).1, (getTextOf b a).2.1, 0) else ([], a, brk (getTextOf b a).2.2)) else ([], a, e)
theorem number_ (b : List Int) (a e n : Int) (hb : isByte b) (hl : b.length ≤ 140737488351232) : Ev (fun k => block_left_number.f k b a e n) (numberOf b a e n) := by
  unfold block_left_number.f numberOf
  by_cases he : e = 0
  · subst he
    simp only [if_true]
    refine Ev.bind (Get_ b a n hb (by omega)) ?_
    by_cases h0 : (getOf b a n).2.2 = 0
    · simp only [if_pos h0]
      exact Ev.now _
    · simp only [if_neg h0]
      exact Ev.now _
  · simp only [if_neg he]
    exact Ev.now _
theorem text_ (b : List Int) (a e : Int) (hb : isByte b) (hl : b.length ≤ 140737488351232) : Ev (fun k => block_left_text.f k b a e) (textOf b a e) := by
  unfold block_left_text.f textOf
  by_cases he : e = 0
  · subst he
    simp only [if_true]
    refine Ev.bind (GetText_ b a hb hl) ?_
    by_cases h0 : (getTextOf b a).2.2 = 0
    · simp only [if_pos h0]
      exact Ev.now _
    · simp only [if_neg h0, brk]
      by_cases h1 : (getTextOf b a).2.2 = 10
      · simp only [h1]
        exact Ev.now _
      · simp only [if_neg h1]
        exact Ev.now _
  · simp only [if_neg he]
    exact Ev.now _
theorem number_no (b : List Int) (a e n : Int) (he : e ≠ 0) : numberOf b a e n = (0, a, e) := by
  unfold numberOf
  rw [if_neg he]
theorem text_no (b : List Int) (a e : Int) (he : e ≠ 0) : textOf b a e = ([], a, e) := by
  unfold textOf
  rw [if_neg he]
theorem number_short (b : List Int) (a n : Int) (hn : 1 ≤ n ∧ n ≤ 8) (ha : 0 ≤ a ∧ a ≤ b.length) (h : (b.length : Int) - a < n) : numberOf b a 0 n = (0, a, 10) := by
  have e : getOf b a n = (0, 0, 10) := by
    unfold getOf
    rw [if_neg (by omega), if_neg (by omega), if_pos h]
  unfold numberOf
  rw [if_pos rfl, e, if_neg (by decide)]
theorem getOf_in (b : List Int) (a n : Int) (_hb : isByte b) (hn : 1 ≤ n ∧ n ≤ 8) (ha : 0 ≤ a) (h : n ≤ (b.length : Int) - a) : getOf b a n = (val ((b.drop a.toNat).take n.toNat), a + n, 0) := by
  unfold getOf
  rw [if_neg (by omega), if_neg (by omega), if_neg (by omega)]
theorem number_in (b : List Int) (a n : Int) (hb : isByte b) (hn : 1 ≤ n ∧ n ≤ 4) (ha : 0 ≤ a) (h : n ≤ (b.length : Int) - a) : numberOf b a 0 n = ((getOf b a n).1, a + n, 0) := by
  have e := getOf_in b a n hb (by omega) ha h
  have r := getOf_ok hb (show (getOf b a n).2.2 = 0 by rw [e])
  have hp := pow_mono (show n.toNat ≤ 4 by omega)
  rw [p256_4] at hp
  unfold numberOf
  rw [if_pos rfl, if_pos (by rw [e]), wrap_in _ (by omega) (by omega), r.2.2.2.2.1]
def decOp (b : List Int) : Int × Int × Int × List Int × List Int × Int × Int :=
  if b.length < 9 then (0, 0, 0, [], [], 0, 10) else
  if (getTextOf b 9).2.2 = 0 then
    if (getTextOf b (getTextOf b 9).2.1).2.2 = 0 then
      if okForm (rd b 0) (getOf b 1 4).1 (getOf b 5 4).1 (getTextOf b 9).1 (getTextOf b (getTextOf b 9).2.1).1 then (rd b 0, (getOf b 1 4).1, (getOf b 5 4).1, (getTextOf b 9).1, (getTextOf b (getTextOf b 9).2.1).1, (getTextOf b (getTextOf b 9).2.1).2.1, 0)
      else (0, 0, 0, [], [], 0, 42)
    else (0, 0, 0, [], [], 0, brk (getTextOf b (getTextOf b 9).2.1).2.2)
  else (0, 0, 0, [], [], 0, brk (getTextOf b 9).2.2)
def decRes (b : List Int) : Int × List Int × Int × Int :=
  if b.length < 1 then (0, [], 0, 10) else
  if (getTextOf b 1).2.2 = 0 then
    if okResult (rd b 0) (getTextOf b 1).1 then (rd b 0, (getTextOf b 1).1, (getTextOf b 1).2.1, 0) else (0, [], 0, 42)
  else (0, [], 0, brk (getTextOf b 1).2.2)
theorem first_ (b : List Int) (hb : isByte b) (h : 1 ≤ b.length) : (getOf b 0 1).1 = rd b 0 ∧ rd b 0 % 256 = rd b 0 := by
  have hr := rd_byte hb 0 (by omega)
  rw [getOf_in b 0 1 hb (by omega) (by omega) (by omega)]
  have h1 : b.take 1 = [rd b 0] := take_rd b 0 (by omega)
  constructor
  · show val ((b.drop 0).take 1) = _
    rw [List.drop_zero, h1]
    simp [val]
  · have hr' : 0 ≤ rd b 0 ∧ rd b 0 ≤ 255 := hr
    omega
theorem end_no (b : List Int) (a e f : Int) (he : e ≠ 0) : block_reader_end.f b a e f = some (0, e, a, e) := by
  unfold block_reader_end.f
  rw [if_neg he]
theorem DecodeOp_ (b : List Int) (hb : isByte b) (hl : b.length ≤ 140737488351232) : Ev (fun k => block_DecodeOp.f k b) (decOp b) := by
  unfold block_DecodeOp.f
  refine Ev.bind (number_ b 0 0 1 hb hl) ?_
  refine Ev.bind (number_ b _ _ 4 hb hl) ?_
  refine Ev.bind (number_ b _ _ 4 hb hl) ?_
  refine Ev.bind (text_ b _ _ hb hl) ?_
  refine Ev.bind (text_ b _ _ hb hl) ?_
  simp only [Form_, Option.bind_some]
  unfold decOp
  by_cases h9 : b.length < 9
  · rw [if_pos h9]
    by_cases h1 : b.length < 1
    · rw [number_short b 0 1 (by omega) (by omega) (by omega)]
      simp only [number_no _ _ 10 _ (by decide), text_no _ _ 10 (by decide), end_no _ _ 10 _ (by decide), Option.bind_some]
      exact Ev.now _
    · rw [number_in b 0 1 hb (by omega) (by omega) (by omega)]
      simp only [Int.zero_add]
      by_cases h5 : b.length < 5
      · rw [number_short b 1 4 (by omega) (by omega) (by omega)]
        simp only [number_no _ _ 10 _ (by decide), text_no _ _ 10 (by decide), end_no _ _ 10 _ (by decide), Option.bind_some]
        exact Ev.now _
      · rw [number_in b 1 4 hb (by omega) (by omega) (by omega)]
        simp only [show (1 : Int) + 4 = 5 from rfl]
        rw [number_short b 5 4 (by omega) (by omega) (by omega)]
        simp only [text_no _ _ 10 (by decide), end_no _ _ 10 _ (by decide), Option.bind_some]
        exact Ev.now _
  · rw [if_neg h9, number_in b 0 1 hb (by omega) (by omega) (by omega)]
    obtain ⟨f1, f2⟩ := first_ b hb (by omega)
    simp only [Int.zero_add, f1, f2]
    rw [number_in b 1 4 hb (by omega) (by omega) (by omega)]
    simp only [show (1 : Int) + 4 = 5 from rfl]
    rw [number_in b 5 4 hb (by omega) (by omega) (by omega)]
    simp only [show (5 : Int) + 4 = 9 from rfl]
    by_cases ht : (getTextOf b 9).2.2 = 0
    · have e1 : textOf b 9 0 = ((getTextOf b 9).1, (getTextOf b 9).2.1, 0) := by
        unfold textOf
        rw [if_pos rfl, if_pos ht]
      rw [if_pos ht, e1]
      dsimp only
      by_cases hu : (getTextOf b (getTextOf b 9).2.1).2.2 = 0
      · have e2 : textOf b (getTextOf b 9).2.1 0 = ((getTextOf b (getTextOf b 9).2.1).1, (getTextOf b (getTextOf b 9).2.1).2.1, 0) := by
          unfold textOf
          rw [if_pos rfl, if_pos hu]
        rw [if_pos hu, e2]
        unfold formOf
        by_cases hk : okForm (rd b 0) (getOf b 1 4).1 (getOf b 5 4).1 (getTextOf b 9).1 (getTextOf b (getTextOf b 9).2.1).1
        · simp only [if_pos hk, block_reader_end.f, if_true, Option.bind_some]
          exact Ev.now _
        · simp only [if_neg hk, block_reader_end.f, if_true, Option.bind_some, show ¬ (41 : Int) = 0 by decide, show ¬ (42 : Int) = 0 by decide, if_false]
          exact Ev.now _
      · have e2 : textOf b (getTextOf b 9).2.1 0 = ([], (getTextOf b 9).2.1, brk (getTextOf b (getTextOf b 9).2.1).2.2) := by
          unfold textOf
          rw [if_pos rfl, if_neg hu]
        rw [if_neg hu, e2]
        simp only [end_no _ _ _ _ (brk_ne _), Option.bind_some, if_neg (brk_ne _)]
        exact Ev.now _
    · have e1 : textOf b 9 0 = ([], 9, brk (getTextOf b 9).2.2) := by
        unfold textOf
        rw [if_pos rfl, if_neg ht]
      rw [if_neg ht, e1]
      simp only [text_no _ _ _ (brk_ne _), end_no _ _ _ _ (brk_ne _), Option.bind_some, if_neg (brk_ne _)]
      exact Ev.now _
theorem ref_broken (e : Int) : plinthref04_broken.f e = some (brk e) := by
  unfold plinthref04_broken.f brk
  by_cases h : e = 10
  · rw [if_pos h, if_pos h, h]
  · rw [if_neg h, if_neg h]
theorem isByte_text {b : List Int} (_hb : isByte b) (a : Int) (hl : b.length ≤ 140737488351232) : (getTextOf b a).1.length ≤ 140737488351232 := by
  unfold getTextOf
  dsimp only
  repeat' split
  all_goals first | (simp only [List.length_nil]; omega) | (rw [List.length_take, List.length_drop]; omega)
theorem ref_DecodeOp (b : List Int) (hb : isByte b) (hl : b.length ≤ 140737488351232) : Ev (fun k => plinthref04_DecodeOp.f k b) (decOp b) := by
  unfold plinthref04_DecodeOp.f decOp
  by_cases h9 : b.length < 9
  · rw [if_pos h9]
    refine Ev.congr (f := fun _ => some (0, 0, 0, [], [], 0, 10)) (fun k => by rw [if_pos (by omega)]) (Ev.now _)
  · rw [if_neg h9]
    simp only [show ¬ (b.length : Int) < 9 by omega, if_false]
    refine Ev.bind (ref_Get b 1 4 hb (by omega)) ?_
    refine Ev.bind (ref_Get b 5 4 hb (by omega)) ?_
    refine Ev.bind (ref_GetText b 9 hb hl) ?_
    have w : ∀ a : Int, 0 ≤ a → 4 ≤ (b.length : Int) - a → wrap64 (getOf b a 4).1 = (getOf b a 4).1 := by
      intro a ha h
      have r := getOf_ok hb (show (getOf b a 4).2.2 = 0 by rw [getOf_in b a 4 hb (by omega) ha h])
      have hp : (256 : Int) ^ (4 : Int).toNat = 4294967296 := rfl
      rw [hp] at r
      exact wrap_in _ (by omega) (by omega)
    rw [w 1 (by omega) (by omega), w 5 (by omega) (by omega)]
    by_cases ht : (getTextOf b 9).2.2 = 0
    · simp only [if_pos ht]
      refine Ev.bind (ref_GetText b _ hb hl) ?_
      by_cases hu : (getTextOf b (getTextOf b 9).2.1).2.2 = 0
      · simp only [if_pos hu, show 0 < (b.length : Int) by omega, if_true]
        refine Ev.bind (ref_Form _ _ _ _ _ (Nat.le_trans (isByte_text hb _ hl) (by omega)) (Nat.le_trans (isByte_text hb _ hl) (by omega))) ?_
        unfold formOf
        by_cases hk : okForm (rd b 0) (getOf b 1 4).1 (getOf b 5 4).1 (getTextOf b 9).1 (getTextOf b (getTextOf b 9).2.1).1
        · simp only [if_pos hk, if_true]
          exact Ev.now _
        · simp only [if_neg hk, show ¬ (41 : Int) = 0 by decide, if_false]
          exact Ev.now _
      · simp only [if_neg hu, ref_broken, Option.bind_some]
        exact Ev.now _
    · simp only [if_neg ht, ref_broken, Option.bind_some]
      exact Ev.now _
theorem DecodeResult_ (b : List Int) (hb : isByte b) (hl : b.length ≤ 140737488351232) : Ev (fun k => block_DecodeResult.f k b) (decRes b) := by
  unfold block_DecodeResult.f
  refine Ev.bind (number_ b 0 0 1 hb hl) ?_
  refine Ev.bind (text_ b _ _ hb hl) ?_
  refine Ev.bind (Result_ _ _) ?_
  unfold decRes
  by_cases h1 : b.length < 1
  · rw [if_pos h1, number_short b 0 1 (by omega) (by omega) (by omega)]
    simp only [text_no _ _ 10 (by decide), end_no _ _ 10 _ (by decide), Option.bind_some]
    exact Ev.now _
  · rw [if_neg h1, number_in b 0 1 hb (by omega) (by omega) (by omega)]
    obtain ⟨f1, f2⟩ := first_ b hb (by omega)
    simp only [Int.zero_add, f1, f2]
    by_cases ht : (getTextOf b 1).2.2 = 0
    · have e1 : textOf b 1 0 = ((getTextOf b 1).1, (getTextOf b 1).2.1, 0) := by
        unfold textOf
        rw [if_pos rfl, if_pos ht]
      rw [if_pos ht, e1]
      unfold resultOf
      by_cases hk : okResult (rd b 0) (getTextOf b 1).1
      · simp only [if_pos hk, block_reader_end.f, if_true, Option.bind_some]
        exact Ev.now _
      · simp only [if_neg hk, block_reader_end.f, if_true, Option.bind_some, show ¬ (42 : Int) = 0 by decide, if_false]
        exact Ev.now _
    · have e1 : textOf b 1 0 = ([], 1, brk (getTextOf b 1).2.2) := by
        unfold textOf
        rw [if_pos rfl, if_neg ht]
      rw [if_neg ht, e1]
      simp only [end_no _ _ _ _ (brk_ne _), Option.bind_some, if_neg (brk_ne _)]
      exact Ev.now _
theorem ref_DecodeResult (b : List Int) (hb : isByte b) (hl : b.length ≤ 140737488351232) : Ev (fun k => plinthref04_DecodeResult.f k b) (decRes b) := by
  unfold plinthref04_DecodeResult.f decRes
  by_cases h1 : b.length < 1
  · rw [if_pos h1]
    refine Ev.congr (f := fun _ => some (0, [], 0, 10)) (fun k => by rw [if_pos (by omega)]) (Ev.now _)
  · rw [if_neg h1]
    simp only [show ¬ (b.length : Int) < 1 by omega, if_false]
    refine Ev.bind (ref_GetText b 1 hb hl) ?_
    by_cases ht : (getTextOf b 1).2.2 = 0
    · simp only [if_pos ht, show 0 < (b.length : Int) by omega, if_true]
      refine Ev.bind (ref_Result _ _) ?_
      unfold resultOf
      by_cases hk : okResult (rd b 0) (getTextOf b 1).1
      · simp only [if_pos hk, if_true]
        exact Ev.now _
      · simp only [if_neg hk, show ¬ (42 : Int) = 0 by decide, if_false]
        exact Ev.now _
    · simp only [if_neg ht, ref_broken, Option.bind_some]
      exact Ev.now _
theorem same_self (kind at_ n : Int) (data old : List Int) : plinthref04_Same.f kind at_ n data old kind at_ n data old = some true := by
  unfold plinthref04_Same.f
  simp
theorem same_result_self (code : Int) (data : List Int) : plinthref04_SameResult.f code data code data = some true := by
  unfold plinthref04_SameResult.f
  simp
end Go.Proofs.Ytogjpilkgghidaa.Block
