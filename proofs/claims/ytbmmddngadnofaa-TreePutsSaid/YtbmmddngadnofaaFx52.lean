-- Written by ext (this session's own program).
-- in short rows (short.py)
import Derived.Test.YtbmmddngadnofaaFx0
import Derived.Test.YtbmmddngadnofaaFx51
namespace Go.Proofs.Ytbmmddngadnofaa.F
open Go.RowKit Go.Proofs.YtbmmddngadnofaaW.PrintWords Go.Proofs.YtbmmddngadnofaaW.PrintLast Go.Proofs.YtbmmddngadnofaaW.PrintMore
attribute [local go_sem] max2_int min2_int max_two min_two max_three min_three max_four min_four   -- for this text's walks alone
set_option linter.unusedVariables false
set_option linter.unusedSimpArgs false

/-! ### plinthref06_Right: function 62 -/
theorem plinthref06_Right.tab6 : rtab .any (opsOf Try.f62 6) = rtab .any (opsOf Try.f62 6) := rfl
def plinthref06_Right.B6 : List Nat := [0, 0, 3, 7, 15, 31, 63, 127, 255, 255, 1023, 2047, 4095, 8191, 16383, 32767, 65535, 131071, 262143, 524287, 1048575, 1048575, 4194303, 8388607, 16777215, 1048575, 1048575, 68157439, 235929599, 504365055, 1041235967, 2147483647, 4294967295, 8589934591, 17179869183, 34359738367, 34359738367, 137438953471, 274877906943, 549755813887, 1099511627775, 2199023255551, 4398046511103]
theorem plinthref06_Right.bits6 : waitsOk (rtab .any (opsOf Try.f62 6)).2 plinthref06_Right.B6 = true := by kernel_rfl
def plinthref06_Right.all (k : Nat) : Int → Nat → List S121 → Option Bool
 | _, _, [] => some true
 | p, i, x :: l => (plinthref06_number.f x.f0).bind fun n1 => if n1 = true then ((plinthref06_number.f x.f1).bind fun n2 => if n2 = true then (if 0 < i ∧ x.f0 ≤ p then some false else ((plinthref04_Result.f k x.f2.f0 x.f2.f1).bind fun e => if e = 0 then plinthref06_Right.all k x.f0 (i + 1) l else some false)) else some false) else some false
def plinthref06_Right.f (k : Nat) (l : List S121) : Option Bool := if 64 < l.length then some false else plinthref06_Right.all k 0 0 l
theorem plinthref06_Right.mono_all (k : Nat) : ∀ p i l, LeO (plinthref06_Right.all k p i l) (plinthref06_Right.all (k + 1) p i l)
 | _, _, [] => LeO.refl _
 | p, i, x :: l => by
  unfold plinthref06_Right.all
  refine LeO.bind (LeO.refl _) (fun _ => LeO.ite (LeO.bind (LeO.refl _) (fun _ => LeO.ite (LeO.ite (LeO.refl _) (LeO.bind (plinthref04_Result.mono _ _ _) (fun _ => LeO.ite (plinthref06_Right.mono_all k _ _ l) (LeO.refl _)))) (LeO.refl _))) (LeO.refl _))
theorem plinthref06_Right.mono : ∀ l k, LeO (plinthref06_Right.f k l) (plinthref06_Right.f (k + 1) l) := by
 intro l k
 unfold plinthref06_Right.f
 exact LeO.ite (LeO.refl _) (plinthref06_Right.mono_all k _ _ _)
set_option maxHeartbeats 8000000 in
set_option maxRecDepth 100000 in
theorem plinthref06_Right.calls (k : Nat) (A0 : Option Addr) (c0 : Nat) (l : List S121) (r : Bool) (w : World) (hr : Kd.C k121 w A0 l.length l) (hc : l.length ≤ c0) (h : plinthref06_Right.f k l = some r) :
  Calls Try.prog 62 #[.slice A0 l.length c0] w fun e w' => e = .returned (.bool r) ∧ Below w.heap.size w w' := by
 unfold plinthref06_Right.f at h
 split at h
 ·rename_i hlen
  cases h
  have e0 : decide ((64 : Int) < (l.length : Int)) = true := decide_eq_true (by omega)
  go_enter Try.func62, Try.ntmps62
  go_wp2
  go_ret
  exact ⟨rfl, Below.refl _ _⟩
 rename_i hlen
 have e0 : decide ((64 : Int) < (l.length : Int)) = false := decide_eq_false (by omega)
 have hall := Aside0.mk h
 clear h
 go_enter Try.func62, Try.ntmps62
 go_wp2
 go_loopw [3] (fun q wr => ∃ (n : Nat) (p : Int) (m : Nat), q = .int .i64 (n : Int) ∧ n ≤ l.length ∧ (0 < n → m + 1 = n) ∧ (∀ m', n = m' + 1 → p = (rd_T121 l (m' : Int)).f0) ∧ Below w.heap.size w wr ∧ plinthref06_Right.all k p n (l.drop n) = some r) (fun q wr => l.length - (intOf q).toNat)
 case atStart => exact ⟨0, 0, 0, rfl, by omega, fun hh => by omega, fun m hm => by omega, Below.refl _ _, hall.out⟩
 case round =>
  clear hall
  obtain ⟨n, p, m, rfl, hn, hm, hp, hB, hS⟩ := hrel
  by_cases e : n < l.length
  rotate_left
  ·obtain rfl : n = l.length := by omega
   rw [List.drop_length, plinthref06_Right.all] at hS
   cases hS
   have e1 : decide ((l.length : Int) < (l.length : Int)) = false := decide_eq_false (by omega)
   go_wp2
   go_ret
   exact ⟨rfl, hB⟩
  obtain ⟨ad, A3, c3, eA, h0, h1, h2, h3, hl3, hi3⟩ := at_T121 hr n (by omega) (by omega)
  cases eA
  replace h0 := (hB.cell (World.block_lt_of_cell? w _ h0)).trans h0
  replace h1 := (hB.cell (World.block_lt_of_cell? w _ h1)).trans h1
  replace h2 := (hB.cell (World.block_lt_of_cell? w _ h2)).trans h2
  replace h3 := (hB.cell (World.block_lt_of_cell? w _ h3)).trans h3
  have hd : l.drop n = rd_T121 l n :: l.drop (n + 1) := by
   rw [List.drop_eq_getElem_cons e, rd_T121, Int.toNat_natCast, List.getD_eq_getElem?_getD, List.getElem?_eq_getElem e, Option.getD_some]
  obtain ⟨x, hx⟩ : ∃ x, rd_T121 l (n : Int) = x := ⟨_, rfl⟩
  have hnext := Aside0.mk (show ∀ m', n + 1 = m' + 1 → x.f0 = (rd_T121 l (m' : Int)).f0 from fun m hm => by rw [show m = n by omega, hx])
  rw [hx] at h0 h1 h2 h3 hl3 hi3 hd
  rw [Int.toNat_natCast] at h0 h1 h2 h3
  rw [hd, plinthref06_Right.all] at hS
  have e1 : decide ((n : Int) < (l.length : Int)) = true := decide_eq_true (by omega)
  have e2 : decide (0 ≤ (n : Int)) = true := decide_eq_true (by omega)
  go_wp2
  have e7 : True → wrap64 ((n : Int) + 1) = (n : Int) + 1 := fun _ => by unfold wrap64; omega
  have HB := Aside0.mk hB
  have HL := Aside0.mk (And.intro hlen e)
  replace hi3 := Aside0.mk hi3
  obtain ⟨n1, q1, hS⟩ := Option.bind_eq_some_iff.mp hS
  replace hS := Aside0.mk hS
  clear hd hx hlen e0
  rcases Nat.eq_zero_or_pos n with hz | hz
  ·have e4b : decide ((0 : Int) < (n : Int)) = false := decide_eq_false (by omega)
   have e4c : decide (0 < n) = false := decide_eq_false (by omega)
   replace hz := Aside0.mk hz
   clear hm hp hB hr hc
   refine start_ (n := 43) (S := fun w' => w'.cell? (ad.add (n * 4)) = some (.int .i64 x.f0) ∧ w'.cell? ⟨(ad.add (n * 4)).block, (ad.add (n * 4)).off + 1, none⟩ = some (.int .i64 x.f1) ∧ w'.cell? ⟨(ad.add (n * 4)).block, (ad.add (n * 4)).off + 2, none⟩ = some (.int .u8 x.f2.f0) ∧ w'.cell? ⟨(ad.add (n * 4)).block, (ad.add (n * 4)).off + 3, none⟩ = some (.slice A3 x.f2.f1.length c3) ∧ True) (ds := []) (Array.replicate 43 false) (by kernel_rfl) rfl rfl ⟨h0, h1, h2, h3, trivial⟩ (fun hHeld => ?_)
   refine with_tabW plinthref06_Right.tab6 plinthref06_Right.bits6 (fun HT_ HW_ => ?_)
   replace HB := Aside0.mk (below_drew1 HB.out)
   clear h0 h1 h2 h3
   generalize wr.drew = W5 at HB hHeld ⊢
   refine pM 0 13 HT_.out ?_; refine pM 1 14 HT_.out ?_; refine pM 2 15 HT_.out ?_; refine pM 3 16 HT_.out ?_; refine tM 4 17 HT_.out HW_.out hHeld ?_
   refine oM 5 18 HT_.out (fun K hK => ?_)
   refine gM Try.func74 #[.int .i64 x.f0] ?_
   refine (plinthref06_number.calls x.f0 n1 _ q1).mono ?_
   rintro e_ w5 ⟨rfl, hd_⟩
   have hb_ := hd_.below
   replace HB := Aside0.mk (below_step HB.out hb_)
   refine ⟨_, rfl, ?_⟩
   refine hK.out _ _ ⟨(hb_.cell (World.block_lt_of_cell? _ _ hHeld.1)).trans hHeld.1, (hb_.cell (World.block_lt_of_cell? _ _ hHeld.2.1)).trans hHeld.2.1, (hb_.cell (World.block_lt_of_cell? _ _ hHeld.2.2.1)).trans hHeld.2.2.1, (hb_.cell (World.block_lt_of_cell? _ _ hHeld.2.2.2.1)).trans hHeld.2.2.2.1, trivial⟩ (fun hHeld => ?_)
   clear hK K hb_ hd_
   refine nM 18 ?_
   cases n1
   ·replace hS := hS.out
    rw [if_neg (by decide)] at hS
    cases hS
    refine pM 6 19 HT_.out ?_; refine pM 7 20 HT_.out ?_; refine uM 8 21 HT_.out ?_; refine uM 9 22 HT_.out ?_; refine uM 10 23 HT_.out ?_; refine uM 11 24 HT_.out ?_; refine uM 12 25 HT_.out ?_; refine uM 13 26 HT_.out ?_; refine uM 14 27 HT_.out ?_; refine pM 15 28 HT_.out ?_; refine pM 16 29 HT_.out ?_; refine uM 17 30 HT_.out ?_; refine uM 18 31 HT_.out ?_; refine uM 19 32 HT_.out ?_; refine uM 20 33 HT_.out ?_; refine uM 21 34 HT_.out ?_; refine uM 22 35 HT_.out ?_; refine uM 23 36 HT_.out ?_; refine uM 24 37 HT_.out ?_; refine uM 25 38 HT_.out ?_; refine uM 26 39 HT_.out ?_; refine uM 27 40 HT_.out ?_; refine uM 28 41 HT_.out ?_; refine uM 29 42 HT_.out ?_; refine uM 30 43 HT_.out ?_; refine uM 31 44 HT_.out ?_; refine uM 32 45 HT_.out ?_; refine pM 33 46 HT_.out ?_; refine pM 34 47 HT_.out ?_; refine uM 35 48 HT_.out ?_; refine uM 36 49 HT_.out ?_; refine uM 37 50 HT_.out ?_; refine uM 38 51 HT_.out ?_; refine uM 39 52 HT_.out ?_; refine uM 40 53 HT_.out ?_; refine uM 41 54 HT_.out ?_; refine pM 42 55 HT_.out ?_
    refine done_ (done_of HT_.out (by kernel_rfl)) ?_
    go_wp2
    go_ret
    exact ⟨rfl, HB.out⟩
   replace hS := hS.out
   rw [if_pos rfl] at hS
   obtain ⟨n2, q2, hS⟩ := Option.bind_eq_some_iff.mp hS
   replace hS := Aside0.mk hS
   refine pM 6 19 HT_.out ?_; refine pM 7 20 HT_.out ?_; refine pM 8 21 HT_.out ?_; refine pM 9 22 HT_.out ?_; refine pM 10 23 HT_.out ?_; refine pM 11 24 HT_.out ?_; refine tM 12 25 HT_.out HW_.out hHeld ?_
   refine oM 13 26 HT_.out (fun K hK => ?_)
   refine gM Try.func74 #[.int .i64 x.f1] ?_
   refine (plinthref06_number.calls x.f1 n2 _ q2).mono ?_
   rintro e_ w5 ⟨rfl, hd_⟩
   have hb_ := hd_.below
   replace HB := Aside0.mk (below_step HB.out hb_)
   refine ⟨_, rfl, ?_⟩
   refine hK.out _ _ ⟨(hb_.cell (World.block_lt_of_cell? _ _ hHeld.1)).trans hHeld.1, (hb_.cell (World.block_lt_of_cell? _ _ hHeld.2.1)).trans hHeld.2.1, (hb_.cell (World.block_lt_of_cell? _ _ hHeld.2.2.1)).trans hHeld.2.2.1, (hb_.cell (World.block_lt_of_cell? _ _ hHeld.2.2.2.1)).trans hHeld.2.2.2.1, trivial⟩ (fun hHeld => ?_)
   clear hK K hb_ hd_
   refine nM 26 ?_
   cases n2
   ·replace hS := hS.out
    rw [if_neg (by decide)] at hS
    cases hS
    refine pM 14 27 HT_.out ?_; refine pM 15 28 HT_.out ?_; refine pM 16 29 HT_.out ?_; refine uM 17 30 HT_.out ?_; refine uM 18 31 HT_.out ?_; refine uM 19 32 HT_.out ?_; refine uM 20 33 HT_.out ?_; refine uM 21 34 HT_.out ?_; refine uM 22 35 HT_.out ?_; refine uM 23 36 HT_.out ?_; refine uM 24 37 HT_.out ?_; refine uM 25 38 HT_.out ?_; refine uM 26 39 HT_.out ?_; refine uM 27 40 HT_.out ?_; refine uM 28 41 HT_.out ?_; refine uM 29 42 HT_.out ?_; refine uM 30 43 HT_.out ?_; refine uM 31 44 HT_.out ?_; refine uM 32 45 HT_.out ?_; refine pM 33 46 HT_.out ?_; refine pM 34 47 HT_.out ?_; refine uM 35 48 HT_.out ?_; refine uM 36 49 HT_.out ?_; refine uM 37 50 HT_.out ?_; refine uM 38 51 HT_.out ?_; refine uM 39 52 HT_.out ?_; refine uM 40 53 HT_.out ?_; refine uM 41 54 HT_.out ?_; refine pM 42 55 HT_.out ?_
    refine done_ (done_of HT_.out (by kernel_rfl)) ?_
    go_wp2
    go_ret
    exact ⟨rfl, HB.out⟩
   replace hS := hS.out
   rw [if_pos rfl] at hS
   rw [if_neg (fun hh => absurd hh.1 (by rw [hz.out]; decide))] at hS
   obtain ⟨e4, he4, hS⟩ := Option.bind_eq_some_iff.mp hS
   replace hS := Aside0.mk hS
   refine pM 14 27 HT_.out ?_; refine pM 15 28 HT_.out ?_; refine pM 16 29 HT_.out ?_; refine pM 17 30 HT_.out ?_; refine pM 18 31 HT_.out ?_; refine pM 19 32 HT_.out ?_; refine uM 20 33 HT_.out ?_; refine uM 21 34 HT_.out ?_; refine uM 22 35 HT_.out ?_; refine uM 23 36 HT_.out ?_; refine uM 24 37 HT_.out ?_; refine uM 25 38 HT_.out ?_; refine uM 26 39 HT_.out ?_; refine uM 27 40 HT_.out ?_; refine uM 28 41 HT_.out ?_; refine uM 29 42 HT_.out ?_; refine uM 30 43 HT_.out ?_; refine uM 31 44 HT_.out ?_; refine pM 32 45 HT_.out ?_; refine pM 33 46 HT_.out ?_; refine pM 34 47 HT_.out ?_; refine pM 35 48 HT_.out ?_; refine pM 36 49 HT_.out ?_; refine pM 37 50 HT_.out ?_; refine pM 38 51 HT_.out ?_; refine tM 39 52 HT_.out HW_.out hHeld ?_
   refine oM 40 53 HT_.out (fun K hK => ?_)
   refine gM Try.func75 #[.agg #[.int .u8 x.f2.f0, .slice A3 x.f2.f1.length c3]] ?_
   refine (plinthref04_Result.calls k x.f2.f0 A3 c3 x.f2.f1 e4 _ (Kd.C_below hi3.out HB.out) hl3 he4).mono ?_
   rintro e_ w5 ⟨rfl, hb_⟩
   replace HB := Aside0.mk (below_step HB.out hb_)
   refine ⟨_, rfl, ?_⟩
   refine hK.out _ _ ⟨(hb_.cell (World.block_lt_of_cell? _ _ hHeld.1)).trans hHeld.1, (hb_.cell (World.block_lt_of_cell? _ _ hHeld.2.1)).trans hHeld.2.1, (hb_.cell (World.block_lt_of_cell? _ _ hHeld.2.2.1)).trans hHeld.2.2.1, (hb_.cell (World.block_lt_of_cell? _ _ hHeld.2.2.2.1)).trans hHeld.2.2.2.1, trivial⟩ (fun hHeld => ?_)
   clear hK K hb_
   refine nM 53 ?_
   by_cases q4 : e4 = 0
   ·replace hS := hS.out
    rw [if_pos q4] at hS
    subst q4
    replace hS := Aside0.mk hS
    refine pM 41 54 HT_.out ?_; refine pM 42 55 HT_.out ?_
    refine done_ (done_of HT_.out (by kernel_rfl)) ?_
    go_wp2
    exact ⟨⟨n + 1, x.f0, n, by rw [e7 trivial]; rfl, by have := HL.out.2; omega, fun hh => by omega, hnext.out, HB.out, hS.out⟩, by rw [e7 trivial]; simp only [intOf]; have := HL.out.2; omega⟩
   ·replace hS := hS.out
    rw [if_neg q4] at hS
    cases hS
    have q4b : (e4 != 0) = true := bne_iff_ne.2 q4
    clear q4
    refine pM 41 54 HT_.out ?_; refine pM 42 55 HT_.out ?_
    refine done_ (done_of HT_.out (by kernel_rfl)) ?_
    go_wp2
    go_ret
    exact ⟨rfl, HB.out⟩
  ·have hmn := hm hz
   obtain ⟨ad', A4, c4, eA, g0, _⟩ := at_T121 hr m (by omega) (by have := HL.out.2; omega)
   cases eA
   rw [Int.toNat_natCast, ← hp m hmn.symm] at g0
   replace g0 := (hB.cell (World.block_lt_of_cell? w _ g0)).trans g0
   have e3 : True → wrap64 ((n : Int) - 1) = (m : Int) := fun _ => by have := HL.out; unfold wrap64; omega
   have e4b : decide ((0 : Int) < (n : Int)) = true := decide_eq_true (by omega)
   have e4c : decide (0 < n) = true := decide_eq_true (by omega)
   have e6 : m < l.length := by have := HL.out.2; omega
   replace hz := Aside0.mk hz
   clear hm hp hB hr hc hmn
   refine start_ (n := 43) (S := fun w' => w'.cell? (ad.add (n * 4)) = some (.int .i64 x.f0) ∧ w'.cell? ⟨(ad.add (n * 4)).block, (ad.add (n * 4)).off + 1, none⟩ = some (.int .i64 x.f1) ∧ w'.cell? ⟨(ad.add (n * 4)).block, (ad.add (n * 4)).off + 2, none⟩ = some (.int .u8 x.f2.f0) ∧ w'.cell? ⟨(ad.add (n * 4)).block, (ad.add (n * 4)).off + 3, none⟩ = some (.slice A3 x.f2.f1.length c3) ∧ w'.cell? (ad.add (m * 4)) = some (.int .i64 p)) (ds := []) (Array.replicate 43 false) (by kernel_rfl) rfl rfl ⟨h0, h1, h2, h3, g0⟩ (fun hHeld => ?_)
   refine with_tabW plinthref06_Right.tab6 plinthref06_Right.bits6 (fun HT_ HW_ => ?_)
   replace HB := Aside0.mk (below_drew1 HB.out)
   clear h0 h1 h2 h3 g0
   generalize wr.drew = W5 at HB hHeld ⊢
   refine pM 0 13 HT_.out ?_; refine pM 1 14 HT_.out ?_; refine pM 2 15 HT_.out ?_; refine pM 3 16 HT_.out ?_; refine tM 4 17 HT_.out HW_.out hHeld ?_
   refine oM 5 18 HT_.out (fun K hK => ?_)
   refine gM Try.func74 #[.int .i64 x.f0] ?_
   refine (plinthref06_number.calls x.f0 n1 _ q1).mono ?_
   rintro e_ w5 ⟨rfl, hd_⟩
   have hb_ := hd_.below
   replace HB := Aside0.mk (below_step HB.out hb_)
   refine ⟨_, rfl, ?_⟩
   refine hK.out _ _ ⟨(hb_.cell (World.block_lt_of_cell? _ _ hHeld.1)).trans hHeld.1, (hb_.cell (World.block_lt_of_cell? _ _ hHeld.2.1)).trans hHeld.2.1, (hb_.cell (World.block_lt_of_cell? _ _ hHeld.2.2.1)).trans hHeld.2.2.1, (hb_.cell (World.block_lt_of_cell? _ _ hHeld.2.2.2.1)).trans hHeld.2.2.2.1, (hb_.cell (World.block_lt_of_cell? _ _ hHeld.2.2.2.2)).trans hHeld.2.2.2.2⟩ (fun hHeld => ?_)
   clear hK K hb_ hd_
   refine nM 18 ?_
   cases n1
   ·replace hS := hS.out
    rw [if_neg (by decide)] at hS
    cases hS
    refine pM 6 19 HT_.out ?_; refine pM 7 20 HT_.out ?_; refine uM 8 21 HT_.out ?_; refine uM 9 22 HT_.out ?_; refine uM 10 23 HT_.out ?_; refine uM 11 24 HT_.out ?_; refine uM 12 25 HT_.out ?_; refine uM 13 26 HT_.out ?_; refine uM 14 27 HT_.out ?_; refine pM 15 28 HT_.out ?_; refine pM 16 29 HT_.out ?_; refine uM 17 30 HT_.out ?_; refine uM 18 31 HT_.out ?_; refine uM 19 32 HT_.out ?_; refine uM 20 33 HT_.out ?_; refine uM 21 34 HT_.out ?_; refine uM 22 35 HT_.out ?_; refine uM 23 36 HT_.out ?_; refine uM 24 37 HT_.out ?_; refine uM 25 38 HT_.out ?_; refine uM 26 39 HT_.out ?_; refine uM 27 40 HT_.out ?_; refine uM 28 41 HT_.out ?_; refine uM 29 42 HT_.out ?_; refine uM 30 43 HT_.out ?_; refine uM 31 44 HT_.out ?_; refine uM 32 45 HT_.out ?_; refine pM 33 46 HT_.out ?_; refine pM 34 47 HT_.out ?_; refine uM 35 48 HT_.out ?_; refine uM 36 49 HT_.out ?_; refine uM 37 50 HT_.out ?_; refine uM 38 51 HT_.out ?_; refine uM 39 52 HT_.out ?_; refine uM 40 53 HT_.out ?_; refine uM 41 54 HT_.out ?_; refine pM 42 55 HT_.out ?_
    refine done_ (done_of HT_.out (by kernel_rfl)) ?_
    go_wp2
    go_ret
    exact ⟨rfl, HB.out⟩
   replace hS := hS.out
   rw [if_pos rfl] at hS
   obtain ⟨n2, q2, hS⟩ := Option.bind_eq_some_iff.mp hS
   replace hS := Aside0.mk hS
   refine pM 6 19 HT_.out ?_; refine pM 7 20 HT_.out ?_; refine pM 8 21 HT_.out ?_; refine pM 9 22 HT_.out ?_; refine pM 10 23 HT_.out ?_; refine pM 11 24 HT_.out ?_; refine tM 12 25 HT_.out HW_.out hHeld ?_
   refine oM 13 26 HT_.out (fun K hK => ?_)
   refine gM Try.func74 #[.int .i64 x.f1] ?_
   refine (plinthref06_number.calls x.f1 n2 _ q2).mono ?_
   rintro e_ w5 ⟨rfl, hd_⟩
   have hb_ := hd_.below
   replace HB := Aside0.mk (below_step HB.out hb_)
   refine ⟨_, rfl, ?_⟩
   refine hK.out _ _ ⟨(hb_.cell (World.block_lt_of_cell? _ _ hHeld.1)).trans hHeld.1, (hb_.cell (World.block_lt_of_cell? _ _ hHeld.2.1)).trans hHeld.2.1, (hb_.cell (World.block_lt_of_cell? _ _ hHeld.2.2.1)).trans hHeld.2.2.1, (hb_.cell (World.block_lt_of_cell? _ _ hHeld.2.2.2.1)).trans hHeld.2.2.2.1, (hb_.cell (World.block_lt_of_cell? _ _ hHeld.2.2.2.2)).trans hHeld.2.2.2.2⟩ (fun hHeld => ?_)
   clear hK K hb_ hd_
   refine nM 26 ?_
   cases n2
   ·replace hS := hS.out
    rw [if_neg (by decide)] at hS
    cases hS
    refine pM 14 27 HT_.out ?_; refine pM 15 28 HT_.out ?_; refine pM 16 29 HT_.out ?_; refine uM 17 30 HT_.out ?_; refine uM 18 31 HT_.out ?_; refine uM 19 32 HT_.out ?_; refine uM 20 33 HT_.out ?_; refine uM 21 34 HT_.out ?_; refine uM 22 35 HT_.out ?_; refine uM 23 36 HT_.out ?_; refine uM 24 37 HT_.out ?_; refine uM 25 38 HT_.out ?_; refine uM 26 39 HT_.out ?_; refine uM 27 40 HT_.out ?_; refine uM 28 41 HT_.out ?_; refine uM 29 42 HT_.out ?_; refine uM 30 43 HT_.out ?_; refine uM 31 44 HT_.out ?_; refine uM 32 45 HT_.out ?_; refine pM 33 46 HT_.out ?_; refine pM 34 47 HT_.out ?_; refine uM 35 48 HT_.out ?_; refine uM 36 49 HT_.out ?_; refine uM 37 50 HT_.out ?_; refine uM 38 51 HT_.out ?_; refine uM 39 52 HT_.out ?_; refine uM 40 53 HT_.out ?_; refine uM 41 54 HT_.out ?_; refine pM 42 55 HT_.out ?_
    refine done_ (done_of HT_.out (by kernel_rfl)) ?_
    go_wp2
    go_ret
    exact ⟨rfl, HB.out⟩
   replace hS := hS.out
   rw [if_pos rfl] at hS
   by_cases c7 : x.f0 ≤ p
   ·rw [if_pos ⟨hz.out, c7⟩] at hS
    cases hS
    have c7b := decide_eq_true c7
    clear c7
    refine pM 14 27 HT_.out ?_; refine pM 15 28 HT_.out ?_; refine pM 16 29 HT_.out ?_; refine pM 17 30 HT_.out ?_; refine pM 18 31 HT_.out ?_; refine pM 19 32 HT_.out ?_; refine pM 20 33 HT_.out ?_; refine pM 21 34 HT_.out ?_; refine pM 22 35 HT_.out ?_; refine pM 23 36 HT_.out ?_; refine tM 24 37 HT_.out HW_.out hHeld ?_; refine pM 25 38 HT_.out ?_; refine pM 26 39 HT_.out ?_; refine pM 27 40 HT_.out ?_; refine pM 28 41 HT_.out ?_; refine pM 29 42 HT_.out ?_; refine tM 30 43 HT_.out HW_.out hHeld ?_; refine pM 31 44 HT_.out ?_; refine pM 32 45 HT_.out ?_; refine pM 33 46 HT_.out ?_; refine pM 34 47 HT_.out ?_; refine uM 35 48 HT_.out ?_; refine uM 36 49 HT_.out ?_; refine uM 37 50 HT_.out ?_; refine uM 38 51 HT_.out ?_; refine uM 39 52 HT_.out ?_; refine uM 40 53 HT_.out ?_; refine uM 41 54 HT_.out ?_; refine pM 42 55 HT_.out ?_
    refine done_ (done_of HT_.out (by kernel_rfl)) ?_
    go_wp2
    go_ret
    exact ⟨rfl, HB.out⟩
   have c7b := decide_eq_false c7
   rw [if_neg (fun hh => c7 hh.2)] at hS
   clear c7
   obtain ⟨e4, he4, hS⟩ := Option.bind_eq_some_iff.mp hS
   replace hS := Aside0.mk hS
   refine pM 14 27 HT_.out ?_; refine pM 15 28 HT_.out ?_; refine pM 16 29 HT_.out ?_; refine pM 17 30 HT_.out ?_; refine pM 18 31 HT_.out ?_; refine pM 19 32 HT_.out ?_; refine pM 20 33 HT_.out ?_; refine pM 21 34 HT_.out ?_; refine pM 22 35 HT_.out ?_; refine pM 23 36 HT_.out ?_; refine tM 24 37 HT_.out HW_.out hHeld ?_; refine pM 25 38 HT_.out ?_; refine pM 26 39 HT_.out ?_; refine pM 27 40 HT_.out ?_; refine pM 28 41 HT_.out ?_; refine pM 29 42 HT_.out ?_; refine tM 30 43 HT_.out HW_.out hHeld ?_; refine pM 31 44 HT_.out ?_; refine pM 32 45 HT_.out ?_; refine pM 33 46 HT_.out ?_; refine pM 34 47 HT_.out ?_; refine pM 35 48 HT_.out ?_; refine pM 36 49 HT_.out ?_; refine pM 37 50 HT_.out ?_; refine pM 38 51 HT_.out ?_; refine tM 39 52 HT_.out HW_.out hHeld ?_
   refine oM 40 53 HT_.out (fun K hK => ?_)
   refine gM Try.func75 #[.agg #[.int .u8 x.f2.f0, .slice A3 x.f2.f1.length c3]] ?_
   refine (plinthref04_Result.calls k x.f2.f0 A3 c3 x.f2.f1 e4 _ (Kd.C_below hi3.out HB.out) hl3 he4).mono ?_
   rintro e_ w5 ⟨rfl, hb_⟩
   replace HB := Aside0.mk (below_step HB.out hb_)
   refine ⟨_, rfl, ?_⟩
   refine hK.out _ _ ⟨(hb_.cell (World.block_lt_of_cell? _ _ hHeld.1)).trans hHeld.1, (hb_.cell (World.block_lt_of_cell? _ _ hHeld.2.1)).trans hHeld.2.1, (hb_.cell (World.block_lt_of_cell? _ _ hHeld.2.2.1)).trans hHeld.2.2.1, (hb_.cell (World.block_lt_of_cell? _ _ hHeld.2.2.2.1)).trans hHeld.2.2.2.1, (hb_.cell (World.block_lt_of_cell? _ _ hHeld.2.2.2.2)).trans hHeld.2.2.2.2⟩ (fun hHeld => ?_)
   clear hK K hb_
   refine nM 53 ?_
   by_cases q4 : e4 = 0
   ·replace hS := hS.out
    rw [if_pos q4] at hS
    subst q4
    replace hS := Aside0.mk hS
    refine pM 41 54 HT_.out ?_; refine pM 42 55 HT_.out ?_
    refine done_ (done_of HT_.out (by kernel_rfl)) ?_
    go_wp2
    exact ⟨⟨n + 1, x.f0, n, by rw [e7 trivial]; rfl, by have := HL.out.2; omega, fun hh => by omega, hnext.out, HB.out, hS.out⟩, by rw [e7 trivial]; simp only [intOf]; have := HL.out.2; omega⟩
   ·replace hS := hS.out
    rw [if_neg q4] at hS
    cases hS
    have q4b : (e4 != 0) = true := bne_iff_ne.2 q4
    clear q4
    refine pM 41 54 HT_.out ?_; refine pM 42 55 HT_.out ?_
    refine done_ (done_of HT_.out (by kernel_rfl)) ?_
    go_wp2
    go_ret
    exact ⟨rfl, HB.out⟩

end Go.Proofs.Ytbmmddngadnofaa.F
