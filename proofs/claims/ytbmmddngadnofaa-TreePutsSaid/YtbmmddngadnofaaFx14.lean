-- Written by ext (this session's own program).
-- in short rows (short.py)
import Derived.Test.YtbmmddngadnofaaFx0
import Derived.Test.YtbmmddngadnofaaFx13
namespace Go.Proofs.Ytbmmddngadnofaa.F
open Go.RowKit Go.Proofs.YtbmmddngadnofaaW.PrintWords Go.Proofs.YtbmmddngadnofaaW.PrintLast Go.Proofs.YtbmmddngadnofaaW.PrintMore
attribute [local go_sem] max2_int min2_int max_two min_two max_three min_three max_four min_four   -- for this text's walks alone
set_option linter.unusedVariables false
set_option linter.unusedSimpArgs false

/-! ### plinthref25_Row: function 26 -/
def plinthref25_Row.l0 : Nat → List Int → List Int → Int → Option (Int)
 | 0, _, _, _ => none
 | k + 1, x0, x3, x4 => if x4 < (x0.length : Int) then (if 0 ≤ x4 then ((some (([(rd x0 x4) % 256, ((rd x0 x4) / 256) % 256, ((rd x0 x4) / 65536) % 256, ((rd x0 x4) / 16777216) % 256] : List Int) : List Int)).bind fun y196 => (if x3.length + y196.length < 140737488355328 then (plinthref25_Row.l0 k x0 (x3 ++ y196) (wrap64 (x4 + 1))) else (none))) else (none)) else ((plinthref02_Of.f k x3).bind fun t202 => (some t202))
def plinthref25_Row.f (k : Nat) (l0 : List Int) : Option (Int) := plinthref25_Row.l0 k l0 ([] : List Int) 0
theorem plinthref25_Row.mono_l : ∀ k, (∀ y0 y1 y2, LeO (plinthref25_Row.l0 k y0 y1 y2) (plinthref25_Row.l0 (k + 1) y0 y1 y2))
 | 0 => fun _ _ _ r h => by simp [plinthref25_Row.l0] at h
 | k + 1 => by
  have ih0 := plinthref25_Row.mono_l k
  ·intro y0 y1 y2
   unfold plinthref25_Row.l0
   repeat' first
   | (with_reducible exact ih0 _ _ _)
   | (with_reducible exact plinthref02_Of.mono _ _)
   | (with_reducible exact LeO.refl _)
   | (with_reducible exact LeO.none _)
   | (with_reducible refine LeO.ite ?_ ?_)
   | (with_reducible refine LeO.bind ?_ (fun _ => ?_))
   | exact ih0 _ _ _
   | exact plinthref02_Of.mono _ _
   | exact LeO.none _
   | refine LeO.ite ?_ ?_
   | refine LeO.bind ?_ (fun _ => ?_)
theorem plinthref25_Row.mono : ∀ a0 k, LeO (plinthref25_Row.f k a0) (plinthref25_Row.f (k + 1) a0) := by
 intro a0 k
 have ih0 := plinthref25_Row.mono_l k
 unfold plinthref25_Row.f
 repeat' first
   | (with_reducible exact ih0 _ _ _)
   | (with_reducible exact plinthref02_Of.mono _ _)
   | (with_reducible exact LeO.refl _)
   | (with_reducible exact LeO.none _)
   | (with_reducible refine LeO.ite ?_ ?_)
   | (with_reducible refine LeO.bind ?_ (fun _ => ?_))
   | exact ih0 _ _ _
   | exact plinthref02_Of.mono _ _
   | exact LeO.none _
   | refine LeO.ite ?_ ?_
   | refine LeO.bind ?_ (fun _ => ?_)
def plinthref25_Row.T5 : Bool × List (List Nat × List Nat) := (true, [([], []), ([], []), ([], []), ([1, 2], [1, 2]), ([3], [3]), ([4], [4]), ([], []), ([], []), ([6, 7], [6, 7]), ([8], [8]), ([9], [9]), ([10], [10]), ([], []), ([], []), ([12, 13], [12, 13]), ([14], [14]), ([15], [15]), ([16], [16]), ([], []), ([], []), ([18, 19], [18, 19]), ([20], [20]), ([21], [21]), ([22], [22]), ([5, 11, 17, 23], [5, 11, 17, 23]), ([0, 24], [0, 24]), ([25, 25, 0, 1, 2, 3, 4, 5, 6, 7, 8, 9, 10, 11, 12, 13, 14, 15, 16, 17, 18, 19, 20, 21, 22, 23, 24, 25], [0, 25])])
def plinthref25_Row.B5 : List Nat := [0, 0, 0, 6, 14, 30, 0, 0, 192, 448, 960, 1984, 0, 0, 12288, 28672, 61440, 126976, 0, 0, 786432, 1835008, 3932160, 8126464, 16777214, 33554431, 67108863]
theorem plinthref25_Row.tab5 : rtab .any (opsOf Try.f26 5) = plinthref25_Row.T5 := by kernel_rfl
theorem plinthref25_Row.bits5 : waitsOk plinthref25_Row.T5.2 plinthref25_Row.B5 = true := by kernel_rfl
set_option maxHeartbeats 8000000 in
set_option maxRecDepth 100000 in
theorem plinthref25_Row.calls (k : Nat) (A0 : Option Addr) (c0 : Nat) (l0 : List Int) (r : Int) (w : World) (hr0 : Kd.C (Kd.int .u32) w A0 l0.length l0) (hc0 : l0.length ≤ c0) (h : plinthref25_Row.f k l0 = some r) :
  Calls Try.prog 26 #[.slice A0 l0.length c0] w fun e w' => e = .returned (.int .u32 r) ∧ Below w.heap.size w w' := by
 have HR0 := Aside0.mk hr0
 have HC0 := Aside0.mk hc0
 clear hr0 hc0
 have HB := Aside0.mk (Below.refl w.heap.size w)
 have H : (plinthref25_Row.l0 k l0 ([] : List Int) 0) = some r := h
 clear h
 have H' := Aside0.mk H
 clear H
 go_enter Try.func26, Try.ntmps26
 go_wp2
 go_loopg [3, 4] k (fun kq v3 v4 w' => ∃ (x3_1 : List Int) (x4_1 : Int), v4 = .int .i64 x4_1 ∧ Aside0 (plinthref25_Row.l0 kq l0 x3_1 x4_1 = some r) ∧ Aside0 (kq ≤ k) ∧ Aside0 (Kd.R (Kd.int .u8) 5 w' w.heap.size (fun _ => True) v3 x3_1) ∧ Aside0 (Below w.heap.size w w'))
 case atStart => exact ⟨(([] : List Int)), (0), (by first | rfl | (simp; done) | (simp [*]; done)), H', ⟨Nat.le_refl _⟩, ⟨by first | exact Kd.R_nil _ _ _ _ _ | exact Kd.N_nil _ _ _ _ _ | exact Kd.V_nil _ _ _ _ _ | exact Kd.Q_nil _ _ _ _ _ | exact Kd.S_nil _ _ _ _ _⟩, ⟨upB0 HB.out⟩⟩
 case round =>
  clear H'
  obtain ⟨x3_1, x4_1, rfl, HA, HK1, HO_3, HB⟩ := hrel
  cases gk with
  | zero => exact absurd HA.out (by simp [plinthref25_Row.l0])
  | succ k1 =>
   have H := HA.out
   clear HA
   simp only [plinthref25_Row.l0] at H
   by_cases c2 : x4_1 < (l0.length : Int)
   ·rw [if_pos c2] at H
    have c2b0 : decide (x4_1 < (l0.length : Int)) = true := decide_eq_true c2
    clear c2
    by_cases c3 : 0 ≤ x4_1
    ·rw [if_pos c3] at H
     have c3b0 : decide (0 ≤ x4_1) = true := decide_eq_true c3
     clear c3
     obtain ⟨y196, hy196⟩ : ∃ y_ : List Int, y_ = (([(rd l0 x4_1) % 256, ((rd l0 x4_1) / 256) % 256, ((rd l0 x4_1) / 65536) % 256, ((rd l0 x4_1) / 16777216) % 256] : List Int)) := ⟨_, rfl⟩
     replace H : (if x3_1.length + y196.length < 140737488355328 then (plinthref25_Row.l0 k1 l0 (x3_1 ++ y196) (wrap64 (x4_1 + 1))) else (none)) = some r := by first | (rw [hy196]; with_reducible exact H) | (have H2_ := (Option.bind_some _ _).symm.trans H; rw [hy196]; with_reducible exact H2_) | (have H2_ := (Option.bind_some _ _).symm.trans H; with_reducible exact H2_) | with_reducible exact H | (rw [hy196]; exact H) | exact H
     have Ny196 := Aside0.mk hy196
     clear hy196
     by_cases c4 : x3_1.length + y196.length < 140737488355328
     ·rw [if_pos c4] at H
      have LMc4 := Aside0.mk c4
      clear c4
      obtain ⟨y199, hy199⟩ : ∃ y_ : List Int, y_ = (x3_1 ++ y196) := ⟨_, rfl⟩
      replace H : (plinthref25_Row.l0 k1 l0 y199 (wrap64 (x4_1 + 1))) = some r := by first | (rw [hy199]; with_reducible exact H) | (have H2_ := (Option.bind_some _ _).symm.trans H; rw [hy199]; with_reducible exact H2_) | (have H2_ := (Option.bind_some _ _).symm.trans H; with_reducible exact H2_) | with_reducible exact H | (rw [hy199]; exact H) | exact H
      have Ny199 := Aside0.mk hy199
      clear hy199
      have H' := Aside0.mk H
      clear H
      try go_wp2
      replace HO_3 := Aside0.mk (Kd.R_drew HO_3.out)
      replace HB := Aside0.mk (below_drew1 HB.out)
      have p192 : 0 ≤ (x4_1 : Int) := of_decide_eq_true (by first | (with_reducible assumption) | assumption)
      have q192 : x4_1 < (l0.length : Int) := of_decide_eq_true (by first | (with_reducible assumption) | assumption)
      obtain ⟨ad192, e192, hx192_0⟩ := Kd.at_int HR0.out x4_1 p192 q192
      have hw192_0 := hx192_0
      cases e192
      replace hx192_0 := (HB.out.cell (World.block_lt_of_cell? w _ hx192_0)).trans hx192_0
      replace p192 := eq_true p192
      replace q192 := eq_true q192
      have p193 : 0 ≤ (x4_1 : Int) := of_decide_eq_true (by first | (with_reducible assumption) | assumption)
      have q193 : x4_1 < (l0.length : Int) := of_decide_eq_true (by first | (with_reducible assumption) | assumption)
      obtain ⟨ad193, e193, hx193_0⟩ := Kd.at_int HR0.out x4_1 p193 q193
      have hw193_0 := hx193_0
      obtain rfl : ad192 = ad193 := (by injection e193)
      replace hx193_0 := (HB.out.cell (World.block_lt_of_cell? w _ hx193_0)).trans hx193_0
      replace p193 := eq_true p193
      replace q193 := eq_true q193
      have p194 : 0 ≤ (x4_1 : Int) := of_decide_eq_true (by first | (with_reducible assumption) | assumption)
      have q194 : x4_1 < (l0.length : Int) := of_decide_eq_true (by first | (with_reducible assumption) | assumption)
      obtain ⟨ad194, e194, hx194_0⟩ := Kd.at_int HR0.out x4_1 p194 q194
      have hw194_0 := hx194_0
      obtain rfl : ad192 = ad194 := (by injection e194)
      replace hx194_0 := (HB.out.cell (World.block_lt_of_cell? w _ hx194_0)).trans hx194_0
      replace p194 := eq_true p194
      replace q194 := eq_true q194
      have p195 : 0 ≤ (x4_1 : Int) := of_decide_eq_true (by first | (with_reducible assumption) | assumption)
      have q195 : x4_1 < (l0.length : Int) := of_decide_eq_true (by first | (with_reducible assumption) | assumption)
      obtain ⟨ad195, e195, hx195_0⟩ := Kd.at_int HR0.out x4_1 p195 q195
      have hw195_0 := hx195_0
      obtain rfl : ad192 = ad195 := (by injection e195)
      replace hx195_0 := (HB.out.cell (World.block_lt_of_cell? w _ hx195_0)).trans hx195_0
      replace p195 := eq_true p195
      replace q195 := eq_true q195
      refine start_ (n := 27) (S := fun w' => w'.cell? (ad192.add (x4_1).toNat) = some (.int .u32 (rd l0 x4_1)) ∧ w'.cell? (ad192.add (x4_1).toNat) = some (.int .u32 (rd l0 x4_1)) ∧ w'.cell? (ad192.add (x4_1).toNat) = some (.int .u32 (rd l0 x4_1)) ∧ w'.cell? (ad192.add (x4_1).toNat) = some (.int .u32 (rd l0 x4_1))) (ds := []) (Array.replicate 27 false) (by kernel_rfl) rfl rfl ⟨((HB.out.cell (World.block_lt_of_cell? w _ hw192_0)).trans hw192_0), ((HB.out.cell (World.block_lt_of_cell? w _ hw193_0)).trans hw193_0), ((HB.out.cell (World.block_lt_of_cell? w _ hw194_0)).trans hw194_0), ((HB.out.cell (World.block_lt_of_cell? w _ hw195_0)).trans hw195_0)⟩ (fun hHeld => ?_); refine with_tabW plinthref25_Row.tab5 plinthref25_Row.bits5 (fun HT_ HW_ => ?_)
      generalize wr.drew = w5 at HO_3 HB hx192_0 hx193_0 hx194_0 hx195_0 hHeld ⊢
      refine pM 0 11 HT_.out ?_; refine pM 1 12 HT_.out ?_; refine pM 2 13 HT_.out ?_; refine pM 3 14 HT_.out ?_; refine pM 6 17 HT_.out ?_; refine pM 7 18 HT_.out ?_; refine pM 8 19 HT_.out ?_; refine pM 12 23 HT_.out ?_; refine pM 13 24 HT_.out ?_; refine pM 14 25 HT_.out ?_; refine pM 18 29 HT_.out ?_; refine pM 19 30 HT_.out ?_; refine pM 20 31 HT_.out ?_; refine tM 4 15 HT_.out HW_.out hHeld ?_; refine pM 5 16 HT_.out ?_; refine tM 9 20 HT_.out HW_.out hHeld ?_; refine pM 10 21 HT_.out ?_; refine pM 11 22 HT_.out ?_; refine tM 15 26 HT_.out HW_.out hHeld ?_; refine pM 16 27 HT_.out ?_; refine pM 17 28 HT_.out ?_; refine tM 21 32 HT_.out HW_.out hHeld ?_; refine pM 22 33 HT_.out ?_; refine pM 23 34 HT_.out ?_
      refine oM 24 35 HT_.out (fun K hK => ?_)
      refine Kd.R_lit_step (Kd.int .u8) _ 5 ?hg (N := 35) ?hd (xs := ([(rd l0 x4_1) % 256, ((rd l0 x4_1) / 256) % 256, ((rd l0 x4_1) / 65536) % 256, ((rd l0 x4_1) / 16777216) % 256] : List Int)) (inner := [.int .u8 ((rd l0 x4_1) % 256), .int .u8 (((rd l0 x4_1) / 256) % 256), .int .u8 (((rd l0 x4_1) / 65536) % 256), .int .u8 (((rd l0 x4_1) / 16777216) % 256)]) (ok := fun _ => True) (okp := fun _ => True) ?hr ?hp (fun _ hk => hk) trivial (Below.refl _ _) (Nat.le_refl _) (by simp) ?_; (case hd => rfl); (case hg => rfl); (case hr => first | (go_simp; done) | (go_simp; rfl)); (case hp => exact (Reps.one (show Kd.M (Kd.int .u8) _ _ _ ((rd l0 x4_1) % 256) [.int .u8 ((rd l0 x4_1) % 256)] from rfl) (Reps.one (show Kd.M (Kd.int .u8) _ _ _ (((rd l0 x4_1) / 256) % 256) [.int .u8 (((rd l0 x4_1) / 256) % 256)] from rfl) (Reps.one (show Kd.M (Kd.int .u8) _ _ _ (((rd l0 x4_1) / 65536) % 256) [.int .u8 (((rd l0 x4_1) / 65536) % 256)] from rfl) (Reps.one (show Kd.M (Kd.int .u8) _ _ _ (((rd l0 x4_1) / 16777216) % 256) [.int .u8 (((rd l0 x4_1) / 16777216) % 256)] from rfl) (Reps.none _ _))))))
      intro v197 w6 ho7 hb hg_ hnew_
      clear hg_ hnew_
      (first | rw [← Ny196.out] at ho7 | (simp only [Int.reduceToNat] at ho7; rw [← Ny196.out] at ho7))
      have HO198 := Aside0.mk (Kd.R_lower (Kd.R_new' ho7 (Kd.R_lt (upR HO_3.out))) (below_size (upB0 HB.out)))
      replace HO_3 := Aside0.mk (Kd.R_elder' (upR HO_3.out) (Kd.R_base ho7) hb)
      replace HB := Aside0.mk (below_step (upB0 HB.out) hb)
      clear hb ho7
      obtain ⟨Ao9, co9, eo9⟩ := Kd.R_slice HO198.out
      (first | subst eo9 | (injection eo9 with f1_ f2_ f3_; have f4_ := f1_.symm; have f5_ := f3_.symm; clear f1_ f2_ f3_; subst f4_; subst f5_))
      refine hK.out _ _ ⟨((HB.out.cell (World.block_lt_of_cell? w _ hw192_0)).trans hw192_0), ((HB.out.cell (World.block_lt_of_cell? w _ hw193_0)).trans hw193_0), ((HB.out.cell (World.block_lt_of_cell? w _ hw194_0)).trans hw194_0), ((HB.out.cell (World.block_lt_of_cell? w _ hw195_0)).trans hw195_0)⟩ (fun hHeld => ?_)
      clear hK K
      refine nM 35 ?_
      refine oM 25 36 HT_.out (fun K hK => ?_)
      refine Kd.R_append_rows_step (Kd.int .u8) (w0 := w) w.heap.size (by rfl) (.tmp 11) (.tmp 35) 37 5 (.int .u8 0) 1 rfl Try.underlying37 info5 rfl (by decide) (by omega) u3 x3_1 y196 _ _ _ (fun k_ => some k_ ≠ (.slice Ao9 y196.length co9 : Value).ownBlock) (fun _ => False) rfl rfl ?aO ?aR (fun _ _ h => h) (fun _ h => h.elim) ?aF ?aB ?aS ?aL ?_
      (case aR => exact upC ((Kd.R_reads' HO198.out).2.2))
      (case aB => exact (upB0 HB.out))
      (case aF => exact (fun k_ hk => Kd.fresh' (Kd.R_lt (upR HO198.out)) k_ hk))
      (case aO => exact (by refine upR ?_; exact Kd.R_mono HO_3.out (fun _ hk => hk.2)))
      (case aS => exact (below_size (upB0 HB.out)))
      (case aL => have := LMc4.out; omega)
      intro v200 w8 ho hb hg hat
      rw [← Ny199.out] at ho
      have n0_ := Aside0.mk (Kd.R_after (ok := (fun _ => True)) (upR HO198.out) hg hat)
      have n1_ := Aside0.mk (hb)
      have n2_ := Aside0.mk (ho)
      clear HO198
      clear HB
      clear HO_3
      have HO198 := n0_
      have HB := n1_
      have HO201 := n2_
      clear n0_ n1_ n2_
      clear ho hb hg hat
      refine hK.out _ _ ⟨((HB.out.cell (World.block_lt_of_cell? w _ hw192_0)).trans hw192_0), ((HB.out.cell (World.block_lt_of_cell? w _ hw193_0)).trans hw193_0), ((HB.out.cell (World.block_lt_of_cell? w _ hw194_0)).trans hw194_0), ((HB.out.cell (World.block_lt_of_cell? w _ hw195_0)).trans hw195_0)⟩ (fun hHeld => ?_)
      clear hK K
      refine nM 36 ?_; refine pM 26 3 HT_.out ?_
      refine done_ (done_of HT_.out (by kernel_rfl)) ?_
      try go_wp2
      go_roundg k1
      case measure => have := HK1.out; omega
      case rel => exact ⟨(y199), (wrap64 (x4_1 + 1)), (by first | rfl | (simp; done) | (simp [*]; done)), H', ⟨by have := HK1.out; omega⟩, ⟨by refine upR ?_; exact Kd.R_mono HO201.out (fun _ hk => trivial)⟩, ⟨upB0 HB.out⟩⟩
     ·rw [if_neg c4] at H
      exact absurd H (by simp)
    ·rw [if_neg c3] at H
     exact absurd H (by simp)
   ·rw [if_neg c2] at H
    have c2b0 : decide (x4_1 < (l0.length : Int)) = false := decide_eq_false c2
    clear c2
    replace H := Option.bind_eq_some_iff.mp H
    obtain ⟨t202, A100, H⟩ := H
    replace H : (some t202) = some r := H
    have A10 := Aside0.mk A100
    clear A100
    obtain rfl := Option.some.inj H
    obtain ⟨Ao11, co11, eo11⟩ := Kd.R_slice HO_3.out
    subst eo11
    go_wp2_with (first | ((with_reducible refine gate_callee (f := 53) rfl ?_); refine goesL_ (some 38) rfl rfl Try.func53 (by kernel_rfl) rfl #[.slice Ao11 x3_1.length co11] rfl argA ?_; (with_reducible refine (plinthref02_Of.calls k1 _ _ x3_1 t202 _ ?side1 ?side2 A10.out).mono ?_); (case side1 => exact upC ((Kd.R_reads' HO_3.out).2.2)); (case side2 => exact (Kd.R_reads' HO_3.out).2.1); rintro e w' ⟨rfl, ⟨nd, rfl⟩⟩; refine ⟨_, rfl, ?_⟩))
    go_ret
    exact ⟨by first | rfl | (simp [errW_none, errW_some] <;> rfl) | (simp [*, errW_none, errW_some] <;> rfl), upB0 HB.out⟩

end Go.Proofs.Ytbmmddngadnofaa.F
