-- Written by ext (this session's own program).
-- in short rows (short.py)
import Derived.Test.YtbmmddngadnofaaFx29
import Derived.Test.YtbmmddngadnofaaFx0
import Derived.Test.YtbmmddngadnofaaFx6
import Derived.Test.YtbmmddngadnofaaFx8
import Derived.Test.YtbmmddngadnofaaFx14
import Derived.Test.YtbmmddngadnofaaFx16
import Derived.Test.YtbmmddngadnofaaFx18
import Derived.Test.YtbmmddngadnofaaFx24
import Derived.Test.YtbmmddngadnofaaFx26
import Derived.Test.YtbmmddngadnofaaFx28
namespace Go.Proofs.Ytbmmddngadnofaa.F
open Go.RowKit Go.Proofs.YtbmmddngadnofaaW.PrintWords Go.Proofs.YtbmmddngadnofaaW.PrintLast Go.Proofs.YtbmmddngadnofaaW.PrintMore
attribute [local go_sem] max2_int min2_int max_two min_two max_three min_three max_four min_four   -- for this text's walks alone
set_option linter.unusedVariables false
set_option linter.unusedSimpArgs false

set_option maxHeartbeats 8000000 in
set_option maxRecDepth 100000 in
theorem plinthlaw25_TreeMakes.callsB (k : Nat) (a0_0 : Int) (a0_1 : Int) (A0_2 : Option Addr) (c0_2 : Nat) (l0_2 : List Int) (A1 : Option Addr) (c1 : Nat) (l1 : List Int) (r : Bool) (w : World) (hr0_2 : Kd.C (Kd.int .u8) w A0_2 l0_2.length l0_2) (hc0_2 : l0_2.length ≤ c0_2) (hr1 : Kd.C (Kd.int .u32) w A1 l1.length l1) (hc1 : l1.length ≤ c1) (h : plinthlaw25_TreeMakes.f k a0_0 a0_1 l0_2 l1 = some r) (c4 : ¬ ((l0_2.length : Int) > 5000)) :
  Calls Try.prog 4 #[.agg #[.int .i64 a0_0, .int .i64 a0_1, .slice A0_2 l0_2.length c0_2], .slice A1 l1.length c1] w fun e w' => e = .returned (.bool r) ∧ Below w.heap.size w w' := by
 have hu39 := Try.underlying39
 have hu24 := Try.underlying24
 have HR0_2 := Aside0.mk hr0_2
 have HC0_2 := Aside0.mk hc0_2
 clear hr0_2 hc0_2
 have HR1 := Aside0.mk hr1
 have HC1 := Aside0.mk hc1
 clear hr1 hc1
 have HB := Aside0.mk (Below.refl w.heap.size w)
 have H : ((plinthlaw25_few.f l1).bind fun t336 => (if (l0_2.length : Int) > 5000 then (if 5000 ≤ (l0_2.length : Int) then ((some (l0_2.take 5000 : List Int)).bind fun y339 => ((tree_Make.f k t336).bind fun bt343 => ((plinthref25_Make.f k t336).bind fun bt348 => ((tree_Leaf.f k a0_0 a0_1 y339).bind fun t353 => ((plinthref25_Leaf.f k a0_0 a0_1 y339).bind fun t354 => (if t353 = t354 then ((tree_Row.f k t336).bind fun t355 => ((plinthref25_Row.f k t336).bind fun t356 => (if t355 = t356 then ((plinthref25_Same.f k bt343.1 bt348.1).bind fun t357 => (if t357 = true then (if bt343.2 = bt348.2 then ((plinthlaw25_awake.f k).bind fun t358 => (some t358)) else (some false)) else (some false))) else (some false)))) else (some false))))))) else (none)) else ((tree_Make.f k t336).bind fun bt359 => ((plinthref25_Make.f k t336).bind fun bt364 => ((tree_Leaf.f k a0_0 a0_1 l0_2).bind fun t369 => ((plinthref25_Leaf.f k a0_0 a0_1 l0_2).bind fun t370 => (if t369 = t370 then ((tree_Row.f k t336).bind fun t371 => ((plinthref25_Row.f k t336).bind fun t372 => (if t371 = t372 then ((plinthref25_Same.f k bt359.1 bt364.1).bind fun t373 => (if t373 = true then (if bt359.2 = bt364.2 then ((plinthlaw25_awake.f k).bind fun t374 => (some t374)) else (some false)) else (some false))) else (some false)))) else (some false)))))))) = some r := h
 clear h
 replace H := Option.bind_eq_some_iff.mp H
 obtain ⟨t336, A30, H⟩ := H
 replace H : (if (l0_2.length : Int) > 5000 then (if 5000 ≤ (l0_2.length : Int) then ((some (l0_2.take 5000 : List Int)).bind fun y339 => ((tree_Make.f k t336).bind fun bt343 => ((plinthref25_Make.f k t336).bind fun bt348 => ((tree_Leaf.f k a0_0 a0_1 y339).bind fun t353 => ((plinthref25_Leaf.f k a0_0 a0_1 y339).bind fun t354 => (if t353 = t354 then ((tree_Row.f k t336).bind fun t355 => ((plinthref25_Row.f k t336).bind fun t356 => (if t355 = t356 then ((plinthref25_Same.f k bt343.1 bt348.1).bind fun t357 => (if t357 = true then (if bt343.2 = bt348.2 then ((plinthlaw25_awake.f k).bind fun t358 => (some t358)) else (some false)) else (some false))) else (some false)))) else (some false))))))) else (none)) else ((tree_Make.f k t336).bind fun bt359 => ((plinthref25_Make.f k t336).bind fun bt364 => ((tree_Leaf.f k a0_0 a0_1 l0_2).bind fun t369 => ((plinthref25_Leaf.f k a0_0 a0_1 l0_2).bind fun t370 => (if t369 = t370 then ((tree_Row.f k t336).bind fun t371 => ((plinthref25_Row.f k t336).bind fun t372 => (if t371 = t372 then ((plinthref25_Same.f k bt359.1 bt364.1).bind fun t373 => (if t373 = true then (if bt359.2 = bt364.2 then ((plinthlaw25_awake.f k).bind fun t374 => (some t374)) else (some false)) else (some false))) else (some false)))) else (some false))))))) = some r := H
 have A3 := Aside0.mk A30
 clear A30
 ·rw [if_neg c4] at H
  have c4b0 : decide (5000 < (l0_2.length : Int)) = false := decide_eq_false c4
  have c4b1 : decide (5000 < l0_2.length) = false := decide_eq_false (by omega)
  clear c4
  replace H := Option.bind_eq_some_iff.mp H
  obtain ⟨⟨t359, t362⟩, A1300, H⟩ := H
  replace H : ((plinthref25_Make.f k t336).bind fun bt364 => ((tree_Leaf.f k a0_0 a0_1 l0_2).bind fun t369 => ((plinthref25_Leaf.f k a0_0 a0_1 l0_2).bind fun t370 => (if t369 = t370 then ((tree_Row.f k t336).bind fun t371 => ((plinthref25_Row.f k t336).bind fun t372 => (if t371 = t372 then ((plinthref25_Same.f k t359 bt364.1).bind fun t373 => (if t373 = true then (if t362 = bt364.2 then ((plinthlaw25_awake.f k).bind fun t374 => (some t374)) else (some false)) else (some false))) else (some false)))) else (some false))))) = some r := H
  have A130 := Aside0.mk A1300
  clear A1300
  replace H := Option.bind_eq_some_iff.mp H
  obtain ⟨⟨t364, t367⟩, A1310, H⟩ := H
  replace H : ((tree_Leaf.f k a0_0 a0_1 l0_2).bind fun t369 => ((plinthref25_Leaf.f k a0_0 a0_1 l0_2).bind fun t370 => (if t369 = t370 then ((tree_Row.f k t336).bind fun t371 => ((plinthref25_Row.f k t336).bind fun t372 => (if t371 = t372 then ((plinthref25_Same.f k t359 t364).bind fun t373 => (if t373 = true then (if t362 = t367 then ((plinthlaw25_awake.f k).bind fun t374 => (some t374)) else (some false)) else (some false))) else (some false)))) else (some false)))) = some r := H
  have A131 := Aside0.mk A1310
  clear A1310
  replace H := Option.bind_eq_some_iff.mp H
  obtain ⟨t369, A1320, H⟩ := H
  replace H : ((plinthref25_Leaf.f k a0_0 a0_1 l0_2).bind fun t370 => (if t369 = t370 then ((tree_Row.f k t336).bind fun t371 => ((plinthref25_Row.f k t336).bind fun t372 => (if t371 = t372 then ((plinthref25_Same.f k t359 t364).bind fun t373 => (if t373 = true then (if t362 = t367 then ((plinthlaw25_awake.f k).bind fun t374 => (some t374)) else (some false)) else (some false))) else (some false)))) else (some false))) = some r := H
  have A132 := Aside0.mk A1320
  clear A1320
  replace H := Option.bind_eq_some_iff.mp H
  obtain ⟨t370, A1330, H⟩ := H
  replace H : (if t369 = t370 then ((tree_Row.f k t336).bind fun t371 => ((plinthref25_Row.f k t336).bind fun t372 => (if t371 = t372 then ((plinthref25_Same.f k t359 t364).bind fun t373 => (if t373 = true then (if t362 = t367 then ((plinthlaw25_awake.f k).bind fun t374 => (some t374)) else (some false)) else (some false))) else (some false)))) else (some false)) = some r := H
  have A133 := Aside0.mk A1330
  clear A1330
  by_cases c134 : t369 = t370
  ·rw [if_pos c134] at H
   have c134b0 : (t369 == t370) = true := beq_iff_eq.mpr c134
   have c134b1 : (t369 != t370) = false := bne_eq_false_iff_eq.mpr c134
   clear c134
   replace H := Option.bind_eq_some_iff.mp H
   obtain ⟨t371, A1350, H⟩ := H
   replace H : ((plinthref25_Row.f k t336).bind fun t372 => (if t371 = t372 then ((plinthref25_Same.f k t359 t364).bind fun t373 => (if t373 = true then (if t362 = t367 then ((plinthlaw25_awake.f k).bind fun t374 => (some t374)) else (some false)) else (some false))) else (some false))) = some r := H
   have A135 := Aside0.mk A1350
   clear A1350
   replace H := Option.bind_eq_some_iff.mp H
   obtain ⟨t372, A1360, H⟩ := H
   replace H : (if t371 = t372 then ((plinthref25_Same.f k t359 t364).bind fun t373 => (if t373 = true then (if t362 = t367 then ((plinthlaw25_awake.f k).bind fun t374 => (some t374)) else (some false)) else (some false))) else (some false)) = some r := H
   have A136 := Aside0.mk A1360
   clear A1360
   by_cases c137 : t371 = t372
   ·rw [if_pos c137] at H
    have c137b0 : (t371 == t372) = true := beq_iff_eq.mpr c137
    have c137b1 : (t371 != t372) = false := bne_eq_false_iff_eq.mpr c137
    clear c137
    replace H := Option.bind_eq_some_iff.mp H
    obtain ⟨t373, A1380, H⟩ := H
    replace H : (if t373 = true then (if t362 = t367 then ((plinthlaw25_awake.f k).bind fun t374 => (some t374)) else (some false)) else (some false)) = some r := H
    have A138 := Aside0.mk A1380
    clear A1380
    by_cases c139 : t373 = true
    ·subst c139
     have H1 : (if t362 = t367 then ((plinthlaw25_awake.f k).bind fun t374 => (some t374)) else (some false)) = some r := by rw [if_pos rfl] at H; exact H
     clear H
     have H := H1
     clear H1
     by_cases c140 : t362 = t367
     ·rw [if_pos c140] at H
      have c140b0 : (t362 == t367) = true := beq_iff_eq.mpr c140
      have c140b1 : (t362 != t367) = false := bne_eq_false_iff_eq.mpr c140
      clear c140
      replace H := Option.bind_eq_some_iff.mp H
      obtain ⟨t374, A1410, H⟩ := H
      replace H : (some t374) = some r := H
      have A141 := Aside0.mk A1410
      clear A1410
      obtain rfl := Option.some.inj H
      go_enter Try.func4, Try.ntmps4
      try go_wp2_with (first | ((with_reducible refine gate_dst (N := 2) rfl ?_); refine box_event ?hg (N := 2) ?hd (cs := #[.int .i64 a0_0, .int .i64 a0_1, .slice A0_2 l0_2.length c0_2]) (t := 39) ?hr ?_; (case hd => rfl); (case hg => rfl); (case hr => first | (go_simp; done) | (go_simp; rfl)); intro gb335 hg w142 hbox hb; have BK335 := Aside0.mk (hbox); have GW335 := Aside0.mk ((by rw [hg]; exact (below_size (upB0 HB.out)) : w.heap.size ≤ gb335)); have GE335 := Aside0.mk ((by rw [hg]; exact (below_size (upB0 HB.out)) : w.heap.size ≤ gb335)); replace HB := Aside0.mk (below_step (upB0 HB.out) hb); clear hb hbox hg) | ((with_reducible refine gate_callee (f := 20) rfl ?_); refine goesL_ (some 10) rfl rfl Try.func20 (by kernel_rfl) rfl #[.slice A1 l1.length c1] rfl argA ?_; (with_reducible refine (plinthlaw25_few.calls (fun k_ => k_ < w.heap.size) _ _ l1 t336 _ ?side1 A3.out).mono ?_); (case side1 => exact Kd.V_mk HC1.out (Kd.F_below (Kd.C_F (Kd.heap_int .u32) HR1.out) (upB1 HB.out GE335.out))); rintro e w143 ⟨v337, rfl, ho0, hb⟩; refine ⟨_, rfl, ?_⟩; have HO338 := Aside0.mk (Kd.V_lower (Kd.V_mono (ok' := fun k_ => k_ ≠ gb335) ho0 (fun k_ hk_ => Or.elim hk_ (fun hs_ => fun e_ => Nat.not_le.2 hs_ (by rw [e_]; exact GW335.out)) (fun hn_ => (Kd.freshB (upK BK335.out) k_ hn_)))) (below_size (upB1 HB.out GE335.out))); replace BK335 := Aside0.mk (blk_below (upK BK335.out) hb); replace HB := Aside0.mk (below_step (upB1 HB.out GE335.out) hb); (try clear hb); (try clear hb2); (try clear hk); (try clear hi); (try clear ho0); obtain ⟨hcz144_0, hcz144_1, hcz144_2, hfz144_0, hfz144_1, hfz144_2⟩ := cells3 BK335.out; obtain ⟨Ao145, co145, eo145⟩ := Kd.V_slice HO338.out; subst eo145) | ((with_reducible refine gate_callee (f := 21) rfl ?_); refine goesL_ (some 21) rfl rfl Try.func21 (by kernel_rfl) rfl #[.slice Ao145 t336.length co145] rfl argA ?_; (with_reducible refine (tree_Make.calls k _ _ t336 t359 t362 _ ?side1 ?side2 A130.out).mono ?_); (case side1 => exact upC ((Kd.V_reads' HO338.out).2.2)); (case side2 => exact (Kd.V_reads' HO338.out).2.1); rintro e w146 ⟨v360, rfl, ho0, hb⟩; refine ⟨_, rfl, ?_⟩; replace HO338 := Aside0.mk (Kd.V_below (upV HO338.out) hb); have HO361 := Aside0.mk (Kd.V_lower (Kd.V_mono (ok' := fun k_ => k_ ≠ gb335) ho0 (fun k_ hk_ => (Kd.freshB (upK BK335.out) k_ hk_))) (below_size (upB1 HB.out GE335.out))); replace BK335 := Aside0.mk (blk_below (upK BK335.out) hb); replace HB := Aside0.mk (below_step (upB1 HB.out GE335.out) hb); (try clear hb); (try clear hb2); (try clear hk); (try clear hi); (try clear ho0)) | ((with_reducible refine gate_dst (N := 5) rfl ?_); refine box_event ?hg (N := 5) ?hd (cs := #[.slice none 0 0]) (t := 24) ?hr ?_; (case hd => rfl); (case hg => rfl); (case hr => first | (go_simp; done) | (go_simp; rfl)); intro gb363 hg w147 hbox hb; replace HO338 := Aside0.mk (Kd.V_below (Kd.V_elderB (upV HO338.out) gb363 (Nat.le_of_eq hg.symm)) hb); replace HO361 := Aside0.mk (Kd.V_below (Kd.V_elderB (upV HO361.out) gb363 (Nat.le_of_eq hg.symm)) hb); have BK363 := Aside0.mk (hbox); have GW363 := Aside0.mk ((by rw [hg]; exact (below_size (upB1 HB.out GE335.out)) : w.heap.size ≤ gb363)); have GE363 := Aside0.mk ((by rw [hg]; exact (below_size (upB1 HB.out GE335.out)) : w.heap.size ≤ gb363)); replace HB := Aside0.mk (below_step (upB1 HB.out GE335.out) hb); have NB335_363 := Aside0.mk ((by rw [hg]; exact Nat.ne_of_lt (blk_lt (upK BK335.out)) : gb335 ≠ gb363)); have NB363_335 := Aside0.mk ((by rw [hg]; exact Nat.ne_of_gt (blk_lt (upK BK335.out)) : gb363 ≠ gb335)); replace BK335 := Aside0.mk (blk_below (upK BK335.out) hb); clear hb hbox hg; obtain ⟨Ao148, co148, eo148⟩ := Kd.V_slice HO361.out; subst eo148; have hnb149 := NB363_335.out; have hnc149 := NB335_363.out; obtain ⟨hcz150_0, hfz150_0⟩ := cells1 BK363.out) | ((with_reducible refine gate_callee (f := 22) rfl ?_); refine goesL_ (some 26) rfl rfl Try.func22 (by kernel_rfl) rfl #[.slice Ao145 t336.length co145] rfl argA ?_; (with_reducible refine (plinthref25_Make.calls k _ _ t336 t364 t367 _ ?side1 ?side2 A131.out).mono ?_); (case side1 => refine (Kd.V_reads' (e := 25) (base := w.heap.size) (ok := fun k_ => (k_ ≠ gb335 ∧ k_ ≠ gb363)) (n := t336.length) (c := co145) ?_).2.2; exact (by refine upV ?_; exact (fV1 (Kd.V_mono HO338.out (fun k_ hk => (⟨hk, hk.2⟩ : _ ∧ k_ ≠ gb363)))))); (case side2 => exact (Kd.V_reads' HO338.out).2.1); rintro e w151 ⟨v365, rfl, ho0, hb⟩; refine ⟨_, rfl, ?_⟩; replace HO338 := Aside0.mk (Kd.V_below (by refine upV ?_; exact (fV1 (Kd.V_mono HO338.out (fun k_ hk => (⟨hk, hk.2⟩ : _ ∧ k_ ≠ gb363))))) hb); replace HO361 := Aside0.mk (Kd.V_below (by refine upV ?_; exact (fV1 (Kd.V_mono HO361.out (fun k_ hk => (⟨hk, hk.2⟩ : _ ∧ k_ ≠ gb363))))) hb); have HO366 := Aside0.mk (Kd.V_lower (Kd.V_mono (ok' := fun k_ => k_ ≠ gb335 ∧ k_ ≠ gb363) ho0 (fun k_ hk_ => ⟨(Kd.freshB (g := gb335) (o := .cells #[.int .i64 a0_0, .int .i64 a0_1, .slice A0_2 l0_2.length c0_2] 39 (0, 0)) (by refine upK ?_; refine blk_far ?_ NB335_363.out _; refine upK ?_; exact BK335.out) k_ hk_), (Kd.freshB (g := gb363) (o := .cells #[.slice Ao148 t359.length co148] 24 (0, 0)) (by refine upK ?_; refine blk_put (cs := #[.slice none 0 0]) ?_ 0 _ rfl; refine upK ?_; exact BK363.out) k_ hk_)⟩)) (below_size (upB2 HB.out GE335.out GE363.out))); replace BK335 := Aside0.mk (blk_below (g := gb335) (o := .cells #[.int .i64 a0_0, .int .i64 a0_1, .slice A0_2 l0_2.length c0_2] 39 (0, 0)) (by refine upK ?_; refine blk_far ?_ NB335_363.out _; refine upK ?_; exact BK335.out) hb); replace BK363 := Aside0.mk (blk_below (g := gb363) (o := .cells #[.slice Ao148 t359.length co148] 24 (0, 0)) (by refine upK ?_; refine blk_put (cs := #[.slice none 0 0]) ?_ 0 _ rfl; refine upK ?_; exact BK363.out) hb); replace HB := Aside0.mk (below_step (upB2 HB.out GE335.out GE363.out) hb); (try clear hb); (try clear hb2); (try clear hk); (try clear hi); (try clear ho0)) | ((with_reducible refine gate_dst (N := 7) rfl ?_); refine box_event ?hg (N := 7) ?hd (cs := #[.slice none 0 0]) (t := 24) ?hr ?_; (case hd => rfl); (case hg => rfl); (case hr => first | (go_simp; done) | (go_simp; rfl)); intro gb368 hg w152 hbox hb; replace HO338 := Aside0.mk (Kd.V_below (Kd.V_elderB (upV HO338.out) gb368 (Nat.le_of_eq hg.symm)) hb); replace HO361 := Aside0.mk (Kd.V_below (Kd.V_elderB (upV HO361.out) gb368 (Nat.le_of_eq hg.symm)) hb); replace HO366 := Aside0.mk (Kd.V_below (Kd.V_elderB (upV HO366.out) gb368 (Nat.le_of_eq hg.symm)) hb); have BK368 := Aside0.mk (hbox); have GW368 := Aside0.mk ((by rw [hg]; exact (below_size (upB2 HB.out GE335.out GE363.out)) : w.heap.size ≤ gb368)); have GE368 := Aside0.mk ((by rw [hg]; exact (below_size (upB2 HB.out GE335.out GE363.out)) : w.heap.size ≤ gb368)); replace HB := Aside0.mk (below_step (upB2 HB.out GE335.out GE363.out) hb); have NB335_368 := Aside0.mk ((by rw [hg]; exact Nat.ne_of_lt (blk_lt (upK BK335.out)) : gb335 ≠ gb368)); have NB368_335 := Aside0.mk ((by rw [hg]; exact Nat.ne_of_gt (blk_lt (upK BK335.out)) : gb368 ≠ gb335)); replace BK335 := Aside0.mk (blk_below (upK BK335.out) hb); have NB363_368 := Aside0.mk ((by rw [hg]; exact Nat.ne_of_lt (blk_lt (upK BK363.out)) : gb363 ≠ gb368)); have NB368_363 := Aside0.mk ((by rw [hg]; exact Nat.ne_of_gt (blk_lt (upK BK363.out)) : gb368 ≠ gb363)); replace BK363 := Aside0.mk (blk_below (upK BK363.out) hb); clear hb hbox hg; obtain ⟨Ao153, co153, eo153⟩ := Kd.V_slice HO366.out; subst eo153; have hnb154 := NB368_335.out; have hnc154 := NB335_368.out; have hnb155 := NB368_363.out; have hnc155 := NB363_368.out; obtain ⟨hcz156_0, hfz156_0⟩ := cells1 BK368.out))
      have n0_ : Aside0 (Kd.V (Kd.int .u32) 25 (w152.setCell ⟨gb368, 0, none⟩ (.slice Ao153 t364.length co153)) w.heap.size (fun k_ => k_ ≠ gb335 ∧ k_ ≠ gb363 ∧ k_ ≠ gb368) (.slice Ao145 t336.length co145) t336) := ⟨by refine upV ?_; exact Kd.V_mono (garV1 (g := gb368) (Kd.V_mono HO338.out (fun k_ hk => (⟨hk, hk.2⟩ : _ ∧ k_ ≠ gb368))) 0 (.slice Ao153 t364.length co153)) (fun _ hk => ⟨hk.1.1.1, ⟨hk.1.1.2, hk.1.2⟩⟩)⟩
      have n1_ : Aside0 (Kd.V (Kd.slice 25 (Kd.int .u32)) 40 (w152.setCell ⟨gb368, 0, none⟩ (.slice Ao153 t364.length co153)) w.heap.size (fun k_ => k_ ≠ gb335 ∧ k_ ≠ gb363 ∧ k_ ≠ gb368) (.slice Ao148 t359.length co148) t359) := ⟨by refine upV ?_; exact Kd.V_mono (garV1 (g := gb368) (Kd.V_mono HO361.out (fun k_ hk => (⟨hk, hk.2⟩ : _ ∧ k_ ≠ gb368))) 0 (.slice Ao153 t364.length co153)) (fun _ hk => ⟨hk.1.1.1, ⟨hk.1.1.2, hk.1.2⟩⟩)⟩
      have n2_ : Aside0 (Kd.V (Kd.slice 25 (Kd.int .u32)) 40 (w152.setCell ⟨gb368, 0, none⟩ (.slice Ao153 t364.length co153)) w.heap.size (fun k_ => k_ ≠ gb335 ∧ k_ ≠ gb363 ∧ k_ ≠ gb368) (.slice Ao153 t364.length co153) t364) := ⟨by refine upV ?_; exact Kd.V_mono (garV1 (g := gb368) (Kd.V_mono HO366.out (fun k_ hk => (⟨hk, hk.2⟩ : _ ∧ k_ ≠ gb368))) 0 (.slice Ao153 t364.length co153)) (fun _ hk => ⟨hk.1.1.1, ⟨hk.1.1.2, hk.1.2⟩⟩)⟩
      have n3_ : Aside0 ((w152.setCell ⟨gb368, 0, none⟩ (.slice Ao153 t364.length co153)).heap[gb335]? = some (.cells #[.int .i64 a0_0, .int .i64 a0_1, .slice A0_2 l0_2.length c0_2] 39 (0, 0))) := ⟨by refine upK ?_; refine blk_far ?_ NB335_368.out _; refine upK ?_; exact BK335.out⟩
      have n4_ : Aside0 ((w152.setCell ⟨gb368, 0, none⟩ (.slice Ao153 t364.length co153)).heap[gb363]? = some (.cells #[.slice Ao148 t359.length co148] 24 (0, 0))) := ⟨by refine upK ?_; refine blk_far ?_ NB363_368.out _; refine upK ?_; exact BK363.out⟩
      have n5_ : Aside0 ((w152.setCell ⟨gb368, 0, none⟩ (.slice Ao153 t364.length co153)).heap[gb368]? = some (.cells #[.slice Ao153 t364.length co153] 24 (0, 0))) := ⟨by refine upK ?_; refine blk_put (cs := #[.slice none 0 0]) ?_ 0 _ rfl; refine upK ?_; exact BK368.out⟩
      have n6_ : Aside0 (Below w.heap.size w (w152.setCell ⟨gb368, 0, none⟩ (.slice Ao153 t364.length co153))) := ⟨upB3 HB.out GE335.out GE363.out GE368.out⟩
      (try clear HO338); (try clear HO361); (try clear HO366); (try clear BK335); (try clear BK363); (try clear BK368); (try clear HB)
      generalize (w152.setCell ⟨gb368, 0, none⟩ (.slice Ao153 t364.length co153)) = w157 at n0_ n1_ n2_ n3_ n4_ n5_ n6_ ⊢
      have HO338 := n0_
      have HO361 := n1_
      have HO366 := n2_
      have BK335 := n3_
      have BK363 := n4_
      have BK368 := n5_
      have HB := n6_
      clear n0_ n1_ n2_ n3_ n4_ n5_ n6_
      replace HO338 := Aside0.mk (Kd.V_drew HO338.out)
      replace HO361 := Aside0.mk (Kd.V_drew HO361.out)
      replace HO366 := Aside0.mk (Kd.V_drew HO366.out)
      replace BK335 := Aside0.mk (blk_drew BK335.out)
      replace BK363 := Aside0.mk (blk_drew BK363.out)
      replace BK368 := Aside0.mk (blk_drew BK368.out)
      replace HB := Aside0.mk (below_drew1 HB.out)
      refine start_ (n := 26) (S := fun w' => w'.cell? ⟨gb335, 0, none⟩ = some (.int .i64 a0_0) ∧ w'.cell? ⟨gb335, 1, none⟩ = some (.int .i64 a0_1) ∧ w'.cell? ⟨gb335, 2, none⟩ = some (.slice A0_2 l0_2.length c0_2) ∧ w'.cell? ⟨gb363, 0, none⟩ = some (.slice Ao148 t359.length co148) ∧ w'.cell? ⟨gb368, 0, none⟩ = some (.slice Ao153 t364.length co153)) (ds := []) (Array.replicate 26 false) (by kernel_rfl) rfl rfl ⟨(blk_cell BK335.out 0).trans rfl, (blk_cell BK335.out 1).trans rfl, (blk_cell BK335.out 2).trans rfl, (blk_cell BK363.out 0).trans rfl, (blk_cell BK368.out 0).trans rfl⟩ (fun hHeld => ?_); refine with_tabW plinthlaw25_TreeMakes.tab6 plinthlaw25_TreeMakes.bits6 (fun HT_ HW_ => ?_)
      generalize w157.drew = w158 at HO338 HO361 HO366 BK335 BK363 BK368 HB hHeld ⊢
      refine tM 0 29 HT_.out HW_.out hHeld ?_; refine tM 2 31 HT_.out HW_.out hHeld ?_
      refine oM 1 30 HT_.out (fun K hK => ?_)
      refine gM Try.func23 #[.agg #[.int .i64 a0_0, .int .i64 a0_1, .slice A0_2 l0_2.length c0_2]] ?_
      with_reducible refine (tree_Leaf.calls k a0_0 a0_1 (fun k_ => k_ < w.heap.size) _ _ l0_2 t369 _ ?side1 A132.out).mono ?_
      (case side1 => exact Kd.V_mk HC0_2.out (Kd.F_below (Kd.C_F (Kd.heap_int .u8) HR0_2.out) (upB3 HB.out GE335.out GE363.out GE368.out)))
      rintro e w159 ⟨rfl, hb⟩
      refine ⟨_, rfl, ?_⟩
      replace HO338 := Aside0.mk (Kd.V_below (upV HO338.out) hb)
      replace HO361 := Aside0.mk (Kd.V_below (upV HO361.out) hb)
      replace HO366 := Aside0.mk (Kd.V_below (upV HO366.out) hb)
      replace BK335 := Aside0.mk (blk_below (upK BK335.out) hb)
      replace BK363 := Aside0.mk (blk_below (upK BK363.out) hb)
      replace BK368 := Aside0.mk (blk_below (upK BK368.out) hb)
      replace HB := Aside0.mk (below_step (upB3 HB.out GE335.out GE363.out GE368.out) hb)
      (try clear hb); (try clear hb2); (try clear hk); (try clear hi)
      refine hK.out _ _ ⟨(blk_cell BK335.out 0).trans rfl, (blk_cell BK335.out 1).trans rfl, (blk_cell BK335.out 2).trans rfl, (blk_cell BK363.out 0).trans rfl, (blk_cell BK368.out 0).trans rfl⟩ (fun hHeld => ?_)
      clear hK K
      refine nM 30 ?_
      refine oM 3 32 HT_.out (fun K hK => ?_)
      refine gM Try.func24 #[.agg #[.int .i64 a0_0, .int .i64 a0_1, .slice A0_2 l0_2.length c0_2]] ?_
      with_reducible refine (plinthref25_Leaf.calls k a0_0 a0_1 (fun k_ => k_ < w.heap.size) _ _ l0_2 t370 _ ?side1 A133.out).mono ?_
      (case side1 => exact Kd.V_mk HC0_2.out (Kd.F_below (Kd.C_F (Kd.heap_int .u8) HR0_2.out) (upB3 HB.out GE335.out GE363.out GE368.out)))
      rintro e w160 ⟨rfl, hb⟩
      refine ⟨_, rfl, ?_⟩
      replace HO338 := Aside0.mk (Kd.V_below (upV HO338.out) hb)
      replace HO361 := Aside0.mk (Kd.V_below (upV HO361.out) hb)
      replace HO366 := Aside0.mk (Kd.V_below (upV HO366.out) hb)
      replace BK335 := Aside0.mk (blk_below (upK BK335.out) hb)
      replace BK363 := Aside0.mk (blk_below (upK BK363.out) hb)
      replace BK368 := Aside0.mk (blk_below (upK BK368.out) hb)
      replace HB := Aside0.mk (below_step (upB3 HB.out GE335.out GE363.out GE368.out) hb)
      (try clear hb); (try clear hb2); (try clear hk); (try clear hi)
      refine hK.out _ _ ⟨(blk_cell BK335.out 0).trans rfl, (blk_cell BK335.out 1).trans rfl, (blk_cell BK335.out 2).trans rfl, (blk_cell BK363.out 0).trans rfl, (blk_cell BK368.out 0).trans rfl⟩ (fun hHeld => ?_)
      clear hK K
      refine nM 32 ?_; refine pM 4 33 HT_.out ?_; refine pM 5 34 HT_.out ?_; refine pM 6 35 HT_.out ?_; refine pM 8 37 HT_.out ?_
      refine oM 7 36 HT_.out (fun K hK => ?_)
      refine gM Try.func25 #[.slice Ao145 t336.length co145] ?_
      with_reducible refine (tree_Row.calls k _ _ t336 t371 _ ?side1 ?side2 A135.out).mono ?_
      (case side1 => exact upC ((Kd.V_reads' HO338.out).2.2))
      (case side2 => exact (Kd.V_reads' HO338.out).2.1)
      rintro e w161 ⟨rfl, hb⟩
      refine ⟨_, rfl, ?_⟩
      replace HO338 := Aside0.mk (Kd.V_below (upV HO338.out) hb)
      replace HO361 := Aside0.mk (Kd.V_below (upV HO361.out) hb)
      replace HO366 := Aside0.mk (Kd.V_below (upV HO366.out) hb)
      replace BK335 := Aside0.mk (blk_below (upK BK335.out) hb)
      replace BK363 := Aside0.mk (blk_below (upK BK363.out) hb)
      replace BK368 := Aside0.mk (blk_below (upK BK368.out) hb)
      replace HB := Aside0.mk (below_step (upB3 HB.out GE335.out GE363.out GE368.out) hb)
      (try clear hb); (try clear hb2); (try clear hk); (try clear hi)
      refine hK.out _ _ ⟨(blk_cell BK335.out 0).trans rfl, (blk_cell BK335.out 1).trans rfl, (blk_cell BK335.out 2).trans rfl, (blk_cell BK363.out 0).trans rfl, (blk_cell BK368.out 0).trans rfl⟩ (fun hHeld => ?_)
      clear hK K
      refine nM 36 ?_
      refine oM 9 38 HT_.out (fun K hK => ?_)
      refine gM Try.func26 #[.slice Ao145 t336.length co145] ?_
      with_reducible refine (plinthref25_Row.calls k _ _ t336 t372 _ ?side1 ?side2 A136.out).mono ?_
      (case side1 => exact upC ((Kd.V_reads' HO338.out).2.2))
      (case side2 => exact (Kd.V_reads' HO338.out).2.1)
      rintro e w162 ⟨rfl, hb⟩
      refine ⟨_, rfl, ?_⟩
      replace HO338 := Aside0.mk (Kd.V_below (upV HO338.out) hb)
      replace HO361 := Aside0.mk (Kd.V_below (upV HO361.out) hb)
      replace HO366 := Aside0.mk (Kd.V_below (upV HO366.out) hb)
      replace BK335 := Aside0.mk (blk_below (upK BK335.out) hb)
      replace BK363 := Aside0.mk (blk_below (upK BK363.out) hb)
      replace BK368 := Aside0.mk (blk_below (upK BK368.out) hb)
      replace HB := Aside0.mk (below_step (upB3 HB.out GE335.out GE363.out GE368.out) hb)
      (try clear hb); (try clear hb2); (try clear hk); (try clear hi)
      refine hK.out _ _ ⟨(blk_cell BK335.out 0).trans rfl, (blk_cell BK335.out 1).trans rfl, (blk_cell BK335.out 2).trans rfl, (blk_cell BK363.out 0).trans rfl, (blk_cell BK368.out 0).trans rfl⟩ (fun hHeld => ?_)
      clear hK K
      refine nM 38 ?_; refine pM 10 39 HT_.out ?_; refine pM 11 40 HT_.out ?_; refine pM 12 41 HT_.out ?_; refine tM 13 42 HT_.out HW_.out hHeld ?_; refine tM 14 43 HT_.out HW_.out hHeld ?_
      refine oM 15 44 HT_.out (fun K hK => ?_)
      refine gM Try.func27 #[.agg #[.slice Ao148 t359.length co148], .agg #[.slice Ao153 t364.length co153]] ?_
      with_reducible refine (plinthref25_Same.calls k _ _ t359 _ _ t364 true _ ?side1 ?side2 ?side3 ?side4 A138.out).mono ?_
      (case side1 => exact upC ((Kd.V_reads' HO361.out).2.2))
      (case side2 => exact (Kd.V_reads' HO361.out).2.1)
      (case side3 => exact upC ((Kd.V_reads' HO366.out).2.2))
      (case side4 => exact (Kd.V_reads' HO366.out).2.1)
      rintro e w163 ⟨rfl, hb⟩
      refine ⟨_, rfl, ?_⟩
      replace HO338 := Aside0.mk (Kd.V_below (upV HO338.out) hb)
      replace HO361 := Aside0.mk (Kd.V_below (upV HO361.out) hb)
      replace HO366 := Aside0.mk (Kd.V_below (upV HO366.out) hb)
      replace BK335 := Aside0.mk (blk_below (upK BK335.out) hb)
      replace BK363 := Aside0.mk (blk_below (upK BK363.out) hb)
      replace BK368 := Aside0.mk (blk_below (upK BK368.out) hb)
      replace HB := Aside0.mk (below_step (upB3 HB.out GE335.out GE363.out GE368.out) hb)
      (try clear hb); (try clear hb2); (try clear hk); (try clear hi)
      refine hK.out _ _ ⟨(blk_cell BK335.out 0).trans rfl, (blk_cell BK335.out 1).trans rfl, (blk_cell BK335.out 2).trans rfl, (blk_cell BK363.out 0).trans rfl, (blk_cell BK368.out 0).trans rfl⟩ (fun hHeld => ?_)
      clear hK K
      refine nM 44 ?_; refine pM 16 45 HT_.out ?_; refine pM 17 46 HT_.out ?_; refine pM 18 47 HT_.out ?_; refine pM 19 48 HT_.out ?_; refine pM 20 49 HT_.out ?_; refine pM 21 50 HT_.out ?_; refine pM 22 51 HT_.out ?_
      refine oM 23 52 HT_.out (fun K hK => ?_)
      refine gM Try.func19 #[] ?_
      with_reducible refine (plinthlaw25_awake.calls k  t374 _ A141.out).mono ?_
      rintro e w164 ⟨rfl, hb⟩
      refine ⟨_, rfl, ?_⟩
      replace HO338 := Aside0.mk (Kd.V_below (upV HO338.out) hb)
      replace HO361 := Aside0.mk (Kd.V_below (upV HO361.out) hb)
      replace HO366 := Aside0.mk (Kd.V_below (upV HO366.out) hb)
      replace BK335 := Aside0.mk (blk_below (upK BK335.out) hb)
      replace BK363 := Aside0.mk (blk_below (upK BK363.out) hb)
      replace BK368 := Aside0.mk (blk_below (upK BK368.out) hb)
      replace HB := Aside0.mk (below_step (upB3 HB.out GE335.out GE363.out GE368.out) hb)
      (try clear hb); (try clear hb2); (try clear hk); (try clear hi)
      refine hK.out _ _ ⟨(blk_cell BK335.out 0).trans rfl, (blk_cell BK335.out 1).trans rfl, (blk_cell BK335.out 2).trans rfl, (blk_cell BK363.out 0).trans rfl, (blk_cell BK368.out 0).trans rfl⟩ (fun hHeld => ?_)
      clear hK K
      refine nM 52 ?_; refine pM 24 53 HT_.out ?_; refine pM 25 4 HT_.out ?_
      refine done_ (done_of HT_.out (by kernel_rfl)) ?_
      try go_wp2
      go_ret
      exact ⟨by first | rfl | (simp [errW_none, errW_some] <;> rfl) | (simp [*, errW_none, errW_some] <;> rfl), upB3 HB.out GE335.out GE363.out GE368.out⟩
     ·rw [if_neg c140] at H
      have c140b0 : (t362 == t367) = false := beq_eq_false_iff_ne.mpr c140
      have c140b1 : (t362 != t367) = true := bne_iff_ne.mpr c140
      obtain rfl := Option.some.inj H
      go_enter Try.func4, Try.ntmps4
      try go_wp2_with (first | ((with_reducible refine gate_dst (N := 2) rfl ?_); refine box_event ?hg (N := 2) ?hd (cs := #[.int .i64 a0_0, .int .i64 a0_1, .slice A0_2 l0_2.length c0_2]) (t := 39) ?hr ?_; (case hd => rfl); (case hg => rfl); (case hr => first | (go_simp; done) | (go_simp; rfl)); intro gb335 hg w165 hbox hb; have BK335 := Aside0.mk (hbox); have GW335 := Aside0.mk ((by rw [hg]; exact (below_size (upB0 HB.out)) : w.heap.size ≤ gb335)); have GE335 := Aside0.mk ((by rw [hg]; exact (below_size (upB0 HB.out)) : w.heap.size ≤ gb335)); replace HB := Aside0.mk (below_step (upB0 HB.out) hb); clear hb hbox hg) | ((with_reducible refine gate_callee (f := 20) rfl ?_); refine goesL_ (some 10) rfl rfl Try.func20 (by kernel_rfl) rfl #[.slice A1 l1.length c1] rfl argA ?_; (with_reducible refine (plinthlaw25_few.calls (fun k_ => k_ < w.heap.size) _ _ l1 t336 _ ?side1 A3.out).mono ?_); (case side1 => exact Kd.V_mk HC1.out (Kd.F_below (Kd.C_F (Kd.heap_int .u32) HR1.out) (upB1 HB.out GE335.out))); rintro e w166 ⟨v337, rfl, ho0, hb⟩; refine ⟨_, rfl, ?_⟩; have HO338 := Aside0.mk (Kd.V_lower (Kd.V_mono (ok' := fun k_ => k_ ≠ gb335) ho0 (fun k_ hk_ => Or.elim hk_ (fun hs_ => fun e_ => Nat.not_le.2 hs_ (by rw [e_]; exact GW335.out)) (fun hn_ => (Kd.freshB (upK BK335.out) k_ hn_)))) (below_size (upB1 HB.out GE335.out))); replace BK335 := Aside0.mk (blk_below (upK BK335.out) hb); replace HB := Aside0.mk (below_step (upB1 HB.out GE335.out) hb); (try clear hb); (try clear hb2); (try clear hk); (try clear hi); (try clear ho0); obtain ⟨hcz167_0, hcz167_1, hcz167_2, hfz167_0, hfz167_1, hfz167_2⟩ := cells3 BK335.out; obtain ⟨Ao168, co168, eo168⟩ := Kd.V_slice HO338.out; subst eo168) | ((with_reducible refine gate_callee (f := 21) rfl ?_); refine goesL_ (some 21) rfl rfl Try.func21 (by kernel_rfl) rfl #[.slice Ao168 t336.length co168] rfl argA ?_; (with_reducible refine (tree_Make.calls k _ _ t336 t359 t362 _ ?side1 ?side2 A130.out).mono ?_); (case side1 => exact upC ((Kd.V_reads' HO338.out).2.2)); (case side2 => exact (Kd.V_reads' HO338.out).2.1); rintro e w169 ⟨v360, rfl, ho0, hb⟩; refine ⟨_, rfl, ?_⟩; replace HO338 := Aside0.mk (Kd.V_below (upV HO338.out) hb); have HO361 := Aside0.mk (Kd.V_lower (Kd.V_mono (ok' := fun k_ => k_ ≠ gb335) ho0 (fun k_ hk_ => (Kd.freshB (upK BK335.out) k_ hk_))) (below_size (upB1 HB.out GE335.out))); replace BK335 := Aside0.mk (blk_below (upK BK335.out) hb); replace HB := Aside0.mk (below_step (upB1 HB.out GE335.out) hb); (try clear hb); (try clear hb2); (try clear hk); (try clear hi); (try clear ho0)) | ((with_reducible refine gate_dst (N := 5) rfl ?_); refine box_event ?hg (N := 5) ?hd (cs := #[.slice none 0 0]) (t := 24) ?hr ?_; (case hd => rfl); (case hg => rfl); (case hr => first | (go_simp; done) | (go_simp; rfl)); intro gb363 hg w170 hbox hb; replace HO338 := Aside0.mk (Kd.V_below (Kd.V_elderB (upV HO338.out) gb363 (Nat.le_of_eq hg.symm)) hb); replace HO361 := Aside0.mk (Kd.V_below (Kd.V_elderB (upV HO361.out) gb363 (Nat.le_of_eq hg.symm)) hb); have BK363 := Aside0.mk (hbox); have GW363 := Aside0.mk ((by rw [hg]; exact (below_size (upB1 HB.out GE335.out)) : w.heap.size ≤ gb363)); have GE363 := Aside0.mk ((by rw [hg]; exact (below_size (upB1 HB.out GE335.out)) : w.heap.size ≤ gb363)); replace HB := Aside0.mk (below_step (upB1 HB.out GE335.out) hb); have NB335_363 := Aside0.mk ((by rw [hg]; exact Nat.ne_of_lt (blk_lt (upK BK335.out)) : gb335 ≠ gb363)); have NB363_335 := Aside0.mk ((by rw [hg]; exact Nat.ne_of_gt (blk_lt (upK BK335.out)) : gb363 ≠ gb335)); replace BK335 := Aside0.mk (blk_below (upK BK335.out) hb); clear hb hbox hg; obtain ⟨Ao171, co171, eo171⟩ := Kd.V_slice HO361.out; subst eo171; have hnb172 := NB363_335.out; have hnc172 := NB335_363.out; obtain ⟨hcz173_0, hfz173_0⟩ := cells1 BK363.out) | ((with_reducible refine gate_callee (f := 22) rfl ?_); refine goesL_ (some 26) rfl rfl Try.func22 (by kernel_rfl) rfl #[.slice Ao168 t336.length co168] rfl argA ?_; (with_reducible refine (plinthref25_Make.calls k _ _ t336 t364 t367 _ ?side1 ?side2 A131.out).mono ?_); (case side1 => refine (Kd.V_reads' (e := 25) (base := w.heap.size) (ok := fun k_ => (k_ ≠ gb335 ∧ k_ ≠ gb363)) (n := t336.length) (c := co168) ?_).2.2; exact (by refine upV ?_; exact (fV1 (Kd.V_mono HO338.out (fun k_ hk => (⟨hk, hk.2⟩ : _ ∧ k_ ≠ gb363)))))); (case side2 => exact (Kd.V_reads' HO338.out).2.1); rintro e w174 ⟨v365, rfl, ho0, hb⟩; refine ⟨_, rfl, ?_⟩; replace HO338 := Aside0.mk (Kd.V_below (by refine upV ?_; exact (fV1 (Kd.V_mono HO338.out (fun k_ hk => (⟨hk, hk.2⟩ : _ ∧ k_ ≠ gb363))))) hb); replace HO361 := Aside0.mk (Kd.V_below (by refine upV ?_; exact (fV1 (Kd.V_mono HO361.out (fun k_ hk => (⟨hk, hk.2⟩ : _ ∧ k_ ≠ gb363))))) hb); have HO366 := Aside0.mk (Kd.V_lower (Kd.V_mono (ok' := fun k_ => k_ ≠ gb335 ∧ k_ ≠ gb363) ho0 (fun k_ hk_ => ⟨(Kd.freshB (g := gb335) (o := .cells #[.int .i64 a0_0, .int .i64 a0_1, .slice A0_2 l0_2.length c0_2] 39 (0, 0)) (by refine upK ?_; refine blk_far ?_ NB335_363.out _; refine upK ?_; exact BK335.out) k_ hk_), (Kd.freshB (g := gb363) (o := .cells #[.slice Ao171 t359.length co171] 24 (0, 0)) (by refine upK ?_; refine blk_put (cs := #[.slice none 0 0]) ?_ 0 _ rfl; refine upK ?_; exact BK363.out) k_ hk_)⟩)) (below_size (upB2 HB.out GE335.out GE363.out))); replace BK335 := Aside0.mk (blk_below (g := gb335) (o := .cells #[.int .i64 a0_0, .int .i64 a0_1, .slice A0_2 l0_2.length c0_2] 39 (0, 0)) (by refine upK ?_; refine blk_far ?_ NB335_363.out _; refine upK ?_; exact BK335.out) hb); replace BK363 := Aside0.mk (blk_below (g := gb363) (o := .cells #[.slice Ao171 t359.length co171] 24 (0, 0)) (by refine upK ?_; refine blk_put (cs := #[.slice none 0 0]) ?_ 0 _ rfl; refine upK ?_; exact BK363.out) hb); replace HB := Aside0.mk (below_step (upB2 HB.out GE335.out GE363.out) hb); (try clear hb); (try clear hb2); (try clear hk); (try clear hi); (try clear ho0)) | ((with_reducible refine gate_dst (N := 7) rfl ?_); refine box_event ?hg (N := 7) ?hd (cs := #[.slice none 0 0]) (t := 24) ?hr ?_; (case hd => rfl); (case hg => rfl); (case hr => first | (go_simp; done) | (go_simp; rfl)); intro gb368 hg w175 hbox hb; replace HO338 := Aside0.mk (Kd.V_below (Kd.V_elderB (upV HO338.out) gb368 (Nat.le_of_eq hg.symm)) hb); replace HO361 := Aside0.mk (Kd.V_below (Kd.V_elderB (upV HO361.out) gb368 (Nat.le_of_eq hg.symm)) hb); replace HO366 := Aside0.mk (Kd.V_below (Kd.V_elderB (upV HO366.out) gb368 (Nat.le_of_eq hg.symm)) hb); have BK368 := Aside0.mk (hbox); have GW368 := Aside0.mk ((by rw [hg]; exact (below_size (upB2 HB.out GE335.out GE363.out)) : w.heap.size ≤ gb368)); have GE368 := Aside0.mk ((by rw [hg]; exact (below_size (upB2 HB.out GE335.out GE363.out)) : w.heap.size ≤ gb368)); replace HB := Aside0.mk (below_step (upB2 HB.out GE335.out GE363.out) hb); have NB335_368 := Aside0.mk ((by rw [hg]; exact Nat.ne_of_lt (blk_lt (upK BK335.out)) : gb335 ≠ gb368)); have NB368_335 := Aside0.mk ((by rw [hg]; exact Nat.ne_of_gt (blk_lt (upK BK335.out)) : gb368 ≠ gb335)); replace BK335 := Aside0.mk (blk_below (upK BK335.out) hb); have NB363_368 := Aside0.mk ((by rw [hg]; exact Nat.ne_of_lt (blk_lt (upK BK363.out)) : gb363 ≠ gb368)); have NB368_363 := Aside0.mk ((by rw [hg]; exact Nat.ne_of_gt (blk_lt (upK BK363.out)) : gb368 ≠ gb363)); replace BK363 := Aside0.mk (blk_below (upK BK363.out) hb); clear hb hbox hg; obtain ⟨Ao176, co176, eo176⟩ := Kd.V_slice HO366.out; subst eo176; have hnb177 := NB368_335.out; have hnc177 := NB335_368.out; have hnb178 := NB368_363.out; have hnc178 := NB363_368.out; obtain ⟨hcz179_0, hfz179_0⟩ := cells1 BK368.out))
      have n0_ : Aside0 (Kd.V (Kd.int .u32) 25 (w175.setCell ⟨gb368, 0, none⟩ (.slice Ao176 t364.length co176)) w.heap.size (fun k_ => k_ ≠ gb335 ∧ k_ ≠ gb363 ∧ k_ ≠ gb368) (.slice Ao168 t336.length co168) t336) := ⟨by refine upV ?_; exact Kd.V_mono (garV1 (g := gb368) (Kd.V_mono HO338.out (fun k_ hk => (⟨hk, hk.2⟩ : _ ∧ k_ ≠ gb368))) 0 (.slice Ao176 t364.length co176)) (fun _ hk => ⟨hk.1.1.1, ⟨hk.1.1.2, hk.1.2⟩⟩)⟩
      have n1_ : Aside0 (Kd.V (Kd.slice 25 (Kd.int .u32)) 40 (w175.setCell ⟨gb368, 0, none⟩ (.slice Ao176 t364.length co176)) w.heap.size (fun k_ => k_ ≠ gb335 ∧ k_ ≠ gb363 ∧ k_ ≠ gb368) (.slice Ao171 t359.length co171) t359) := ⟨by refine upV ?_; exact Kd.V_mono (garV1 (g := gb368) (Kd.V_mono HO361.out (fun k_ hk => (⟨hk, hk.2⟩ : _ ∧ k_ ≠ gb368))) 0 (.slice Ao176 t364.length co176)) (fun _ hk => ⟨hk.1.1.1, ⟨hk.1.1.2, hk.1.2⟩⟩)⟩
      have n2_ : Aside0 (Kd.V (Kd.slice 25 (Kd.int .u32)) 40 (w175.setCell ⟨gb368, 0, none⟩ (.slice Ao176 t364.length co176)) w.heap.size (fun k_ => k_ ≠ gb335 ∧ k_ ≠ gb363 ∧ k_ ≠ gb368) (.slice Ao176 t364.length co176) t364) := ⟨by refine upV ?_; exact Kd.V_mono (garV1 (g := gb368) (Kd.V_mono HO366.out (fun k_ hk => (⟨hk, hk.2⟩ : _ ∧ k_ ≠ gb368))) 0 (.slice Ao176 t364.length co176)) (fun _ hk => ⟨hk.1.1.1, ⟨hk.1.1.2, hk.1.2⟩⟩)⟩
      have n3_ : Aside0 ((w175.setCell ⟨gb368, 0, none⟩ (.slice Ao176 t364.length co176)).heap[gb335]? = some (.cells #[.int .i64 a0_0, .int .i64 a0_1, .slice A0_2 l0_2.length c0_2] 39 (0, 0))) := ⟨by refine upK ?_; refine blk_far ?_ NB335_368.out _; refine upK ?_; exact BK335.out⟩
      have n4_ : Aside0 ((w175.setCell ⟨gb368, 0, none⟩ (.slice Ao176 t364.length co176)).heap[gb363]? = some (.cells #[.slice Ao171 t359.length co171] 24 (0, 0))) := ⟨by refine upK ?_; refine blk_far ?_ NB363_368.out _; refine upK ?_; exact BK363.out⟩
      have n5_ : Aside0 ((w175.setCell ⟨gb368, 0, none⟩ (.slice Ao176 t364.length co176)).heap[gb368]? = some (.cells #[.slice Ao176 t364.length co176] 24 (0, 0))) := ⟨by refine upK ?_; refine blk_put (cs := #[.slice none 0 0]) ?_ 0 _ rfl; refine upK ?_; exact BK368.out⟩
      have n6_ : Aside0 (Below w.heap.size w (w175.setCell ⟨gb368, 0, none⟩ (.slice Ao176 t364.length co176))) := ⟨upB3 HB.out GE335.out GE363.out GE368.out⟩
      (try clear HO338); (try clear HO361); (try clear HO366); (try clear BK335); (try clear BK363); (try clear BK368); (try clear HB)
      generalize (w175.setCell ⟨gb368, 0, none⟩ (.slice Ao176 t364.length co176)) = w180 at n0_ n1_ n2_ n3_ n4_ n5_ n6_ ⊢
      have HO338 := n0_
      have HO361 := n1_
      have HO366 := n2_
      have BK335 := n3_
      have BK363 := n4_
      have BK368 := n5_
      have HB := n6_
      clear n0_ n1_ n2_ n3_ n4_ n5_ n6_
      replace HO338 := Aside0.mk (Kd.V_drew HO338.out)
      replace HO361 := Aside0.mk (Kd.V_drew HO361.out)
      replace HO366 := Aside0.mk (Kd.V_drew HO366.out)
      replace BK335 := Aside0.mk (blk_drew BK335.out)
      replace BK363 := Aside0.mk (blk_drew BK363.out)
      replace BK368 := Aside0.mk (blk_drew BK368.out)
      replace HB := Aside0.mk (below_drew1 HB.out)
      refine start_ (n := 26) (S := fun w' => w'.cell? ⟨gb335, 0, none⟩ = some (.int .i64 a0_0) ∧ w'.cell? ⟨gb335, 1, none⟩ = some (.int .i64 a0_1) ∧ w'.cell? ⟨gb335, 2, none⟩ = some (.slice A0_2 l0_2.length c0_2) ∧ w'.cell? ⟨gb363, 0, none⟩ = some (.slice Ao171 t359.length co171) ∧ w'.cell? ⟨gb368, 0, none⟩ = some (.slice Ao176 t364.length co176)) (ds := []) (Array.replicate 26 false) (by kernel_rfl) rfl rfl ⟨(blk_cell BK335.out 0).trans rfl, (blk_cell BK335.out 1).trans rfl, (blk_cell BK335.out 2).trans rfl, (blk_cell BK363.out 0).trans rfl, (blk_cell BK368.out 0).trans rfl⟩ (fun hHeld => ?_); refine with_tabW plinthlaw25_TreeMakes.tab6 plinthlaw25_TreeMakes.bits6 (fun HT_ HW_ => ?_)
      generalize w180.drew = w181 at HO338 HO361 HO366 BK335 BK363 BK368 HB hHeld ⊢
      refine tM 0 29 HT_.out HW_.out hHeld ?_; refine tM 2 31 HT_.out HW_.out hHeld ?_
      refine oM 1 30 HT_.out (fun K hK => ?_)
      refine gM Try.func23 #[.agg #[.int .i64 a0_0, .int .i64 a0_1, .slice A0_2 l0_2.length c0_2]] ?_
      with_reducible refine (tree_Leaf.calls k a0_0 a0_1 (fun k_ => k_ < w.heap.size) _ _ l0_2 t369 _ ?side1 A132.out).mono ?_
      (case side1 => exact Kd.V_mk HC0_2.out (Kd.F_below (Kd.C_F (Kd.heap_int .u8) HR0_2.out) (upB3 HB.out GE335.out GE363.out GE368.out)))
      rintro e w182 ⟨rfl, hb⟩
      refine ⟨_, rfl, ?_⟩
      replace HO338 := Aside0.mk (Kd.V_below (upV HO338.out) hb)
      replace HO361 := Aside0.mk (Kd.V_below (upV HO361.out) hb)
      replace HO366 := Aside0.mk (Kd.V_below (upV HO366.out) hb)
      replace BK335 := Aside0.mk (blk_below (upK BK335.out) hb)
      replace BK363 := Aside0.mk (blk_below (upK BK363.out) hb)
      replace BK368 := Aside0.mk (blk_below (upK BK368.out) hb)
      replace HB := Aside0.mk (below_step (upB3 HB.out GE335.out GE363.out GE368.out) hb)
      (try clear hb); (try clear hb2); (try clear hk); (try clear hi)
      refine hK.out _ _ ⟨(blk_cell BK335.out 0).trans rfl, (blk_cell BK335.out 1).trans rfl, (blk_cell BK335.out 2).trans rfl, (blk_cell BK363.out 0).trans rfl, (blk_cell BK368.out 0).trans rfl⟩ (fun hHeld => ?_)
      clear hK K
      refine nM 30 ?_
      refine oM 3 32 HT_.out (fun K hK => ?_)
      refine gM Try.func24 #[.agg #[.int .i64 a0_0, .int .i64 a0_1, .slice A0_2 l0_2.length c0_2]] ?_
      with_reducible refine (plinthref25_Leaf.calls k a0_0 a0_1 (fun k_ => k_ < w.heap.size) _ _ l0_2 t370 _ ?side1 A133.out).mono ?_
      (case side1 => exact Kd.V_mk HC0_2.out (Kd.F_below (Kd.C_F (Kd.heap_int .u8) HR0_2.out) (upB3 HB.out GE335.out GE363.out GE368.out)))
      rintro e w183 ⟨rfl, hb⟩
      refine ⟨_, rfl, ?_⟩
      replace HO338 := Aside0.mk (Kd.V_below (upV HO338.out) hb)
      replace HO361 := Aside0.mk (Kd.V_below (upV HO361.out) hb)
      replace HO366 := Aside0.mk (Kd.V_below (upV HO366.out) hb)
      replace BK335 := Aside0.mk (blk_below (upK BK335.out) hb)
      replace BK363 := Aside0.mk (blk_below (upK BK363.out) hb)
      replace BK368 := Aside0.mk (blk_below (upK BK368.out) hb)
      replace HB := Aside0.mk (below_step (upB3 HB.out GE335.out GE363.out GE368.out) hb)
      (try clear hb); (try clear hb2); (try clear hk); (try clear hi)
      refine hK.out _ _ ⟨(blk_cell BK335.out 0).trans rfl, (blk_cell BK335.out 1).trans rfl, (blk_cell BK335.out 2).trans rfl, (blk_cell BK363.out 0).trans rfl, (blk_cell BK368.out 0).trans rfl⟩ (fun hHeld => ?_)
      clear hK K
      refine nM 32 ?_; refine pM 4 33 HT_.out ?_; refine pM 5 34 HT_.out ?_; refine pM 6 35 HT_.out ?_; refine pM 8 37 HT_.out ?_
      refine oM 7 36 HT_.out (fun K hK => ?_)
      refine gM Try.func25 #[.slice Ao168 t336.length co168] ?_
      with_reducible refine (tree_Row.calls k _ _ t336 t371 _ ?side1 ?side2 A135.out).mono ?_
      (case side1 => exact upC ((Kd.V_reads' HO338.out).2.2))
      (case side2 => exact (Kd.V_reads' HO338.out).2.1)
      rintro e w184 ⟨rfl, hb⟩
      refine ⟨_, rfl, ?_⟩
      replace HO338 := Aside0.mk (Kd.V_below (upV HO338.out) hb)
      replace HO361 := Aside0.mk (Kd.V_below (upV HO361.out) hb)
      replace HO366 := Aside0.mk (Kd.V_below (upV HO366.out) hb)
      replace BK335 := Aside0.mk (blk_below (upK BK335.out) hb)
      replace BK363 := Aside0.mk (blk_below (upK BK363.out) hb)
      replace BK368 := Aside0.mk (blk_below (upK BK368.out) hb)
      replace HB := Aside0.mk (below_step (upB3 HB.out GE335.out GE363.out GE368.out) hb)
      (try clear hb); (try clear hb2); (try clear hk); (try clear hi)
      refine hK.out _ _ ⟨(blk_cell BK335.out 0).trans rfl, (blk_cell BK335.out 1).trans rfl, (blk_cell BK335.out 2).trans rfl, (blk_cell BK363.out 0).trans rfl, (blk_cell BK368.out 0).trans rfl⟩ (fun hHeld => ?_)
      clear hK K
      refine nM 36 ?_
      refine oM 9 38 HT_.out (fun K hK => ?_)
      refine gM Try.func26 #[.slice Ao168 t336.length co168] ?_
      with_reducible refine (plinthref25_Row.calls k _ _ t336 t372 _ ?side1 ?side2 A136.out).mono ?_
      (case side1 => exact upC ((Kd.V_reads' HO338.out).2.2))
      (case side2 => exact (Kd.V_reads' HO338.out).2.1)
      rintro e w185 ⟨rfl, hb⟩
      refine ⟨_, rfl, ?_⟩
      replace HO338 := Aside0.mk (Kd.V_below (upV HO338.out) hb)
      replace HO361 := Aside0.mk (Kd.V_below (upV HO361.out) hb)
      replace HO366 := Aside0.mk (Kd.V_below (upV HO366.out) hb)
      replace BK335 := Aside0.mk (blk_below (upK BK335.out) hb)
      replace BK363 := Aside0.mk (blk_below (upK BK363.out) hb)
      replace BK368 := Aside0.mk (blk_below (upK BK368.out) hb)
      replace HB := Aside0.mk (below_step (upB3 HB.out GE335.out GE363.out GE368.out) hb)
      (try clear hb); (try clear hb2); (try clear hk); (try clear hi)
      refine hK.out _ _ ⟨(blk_cell BK335.out 0).trans rfl, (blk_cell BK335.out 1).trans rfl, (blk_cell BK335.out 2).trans rfl, (blk_cell BK363.out 0).trans rfl, (blk_cell BK368.out 0).trans rfl⟩ (fun hHeld => ?_)
      clear hK K
      refine nM 38 ?_; refine pM 10 39 HT_.out ?_; refine pM 11 40 HT_.out ?_; refine pM 12 41 HT_.out ?_; refine tM 13 42 HT_.out HW_.out hHeld ?_; refine tM 14 43 HT_.out HW_.out hHeld ?_
      refine oM 15 44 HT_.out (fun K hK => ?_)
      refine gM Try.func27 #[.agg #[.slice Ao171 t359.length co171], .agg #[.slice Ao176 t364.length co176]] ?_
      with_reducible refine (plinthref25_Same.calls k _ _ t359 _ _ t364 true _ ?side1 ?side2 ?side3 ?side4 A138.out).mono ?_
      (case side1 => exact upC ((Kd.V_reads' HO361.out).2.2))
      (case side2 => exact (Kd.V_reads' HO361.out).2.1)
      (case side3 => exact upC ((Kd.V_reads' HO366.out).2.2))
      (case side4 => exact (Kd.V_reads' HO366.out).2.1)
      rintro e w186 ⟨rfl, hb⟩
      refine ⟨_, rfl, ?_⟩
      replace HO338 := Aside0.mk (Kd.V_below (upV HO338.out) hb)
      replace HO361 := Aside0.mk (Kd.V_below (upV HO361.out) hb)
      replace HO366 := Aside0.mk (Kd.V_below (upV HO366.out) hb)
      replace BK335 := Aside0.mk (blk_below (upK BK335.out) hb)
      replace BK363 := Aside0.mk (blk_below (upK BK363.out) hb)
      replace BK368 := Aside0.mk (blk_below (upK BK368.out) hb)
      replace HB := Aside0.mk (below_step (upB3 HB.out GE335.out GE363.out GE368.out) hb)
      (try clear hb); (try clear hb2); (try clear hk); (try clear hi)
      refine hK.out _ _ ⟨(blk_cell BK335.out 0).trans rfl, (blk_cell BK335.out 1).trans rfl, (blk_cell BK335.out 2).trans rfl, (blk_cell BK363.out 0).trans rfl, (blk_cell BK368.out 0).trans rfl⟩ (fun hHeld => ?_)
      clear hK K
      refine nM 44 ?_; refine pM 16 45 HT_.out ?_; refine pM 17 46 HT_.out ?_; refine pM 18 47 HT_.out ?_; refine pM 19 48 HT_.out ?_; refine pM 20 49 HT_.out ?_; refine pM 21 50 HT_.out ?_; refine pM 22 51 HT_.out ?_; refine uM 23 52 HT_.out ?_; refine pM 24 53 HT_.out ?_; refine pM 25 4 HT_.out ?_
      refine done_ (done_of HT_.out (by kernel_rfl)) ?_
      try go_wp2
      go_ret
      exact ⟨by first | rfl | (simp [errW_none, errW_some] <;> rfl) | (simp [*, errW_none, errW_some] <;> rfl), upB3 HB.out GE335.out GE363.out GE368.out⟩
    ·replace c139 := Bool.eq_false_iff.mpr c139
     subst c139
     have H1 : (some false) = some r := by rw [if_neg (show ¬ (false = true) by decide)] at H; exact H
     clear H
     have H := H1
     clear H1
     obtain rfl := Option.some.inj H
     go_enter Try.func4, Try.ntmps4
     try go_wp2_with (first | ((with_reducible refine gate_dst (N := 2) rfl ?_); refine box_event ?hg (N := 2) ?hd (cs := #[.int .i64 a0_0, .int .i64 a0_1, .slice A0_2 l0_2.length c0_2]) (t := 39) ?hr ?_; (case hd => rfl); (case hg => rfl); (case hr => first | (go_simp; done) | (go_simp; rfl)); intro gb335 hg w187 hbox hb; have BK335 := Aside0.mk (hbox); have GW335 := Aside0.mk ((by rw [hg]; exact (below_size (upB0 HB.out)) : w.heap.size ≤ gb335)); have GE335 := Aside0.mk ((by rw [hg]; exact (below_size (upB0 HB.out)) : w.heap.size ≤ gb335)); replace HB := Aside0.mk (below_step (upB0 HB.out) hb); clear hb hbox hg) | ((with_reducible refine gate_callee (f := 20) rfl ?_); refine goesL_ (some 10) rfl rfl Try.func20 (by kernel_rfl) rfl #[.slice A1 l1.length c1] rfl argA ?_; (with_reducible refine (plinthlaw25_few.calls (fun k_ => k_ < w.heap.size) _ _ l1 t336 _ ?side1 A3.out).mono ?_); (case side1 => exact Kd.V_mk HC1.out (Kd.F_below (Kd.C_F (Kd.heap_int .u32) HR1.out) (upB1 HB.out GE335.out))); rintro e w188 ⟨v337, rfl, ho0, hb⟩; refine ⟨_, rfl, ?_⟩; have HO338 := Aside0.mk (Kd.V_lower (Kd.V_mono (ok' := fun k_ => k_ ≠ gb335) ho0 (fun k_ hk_ => Or.elim hk_ (fun hs_ => fun e_ => Nat.not_le.2 hs_ (by rw [e_]; exact GW335.out)) (fun hn_ => (Kd.freshB (upK BK335.out) k_ hn_)))) (below_size (upB1 HB.out GE335.out))); replace BK335 := Aside0.mk (blk_below (upK BK335.out) hb); replace HB := Aside0.mk (below_step (upB1 HB.out GE335.out) hb); (try clear hb); (try clear hb2); (try clear hk); (try clear hi); (try clear ho0); obtain ⟨hcz189_0, hcz189_1, hcz189_2, hfz189_0, hfz189_1, hfz189_2⟩ := cells3 BK335.out; obtain ⟨Ao190, co190, eo190⟩ := Kd.V_slice HO338.out; subst eo190) | ((with_reducible refine gate_callee (f := 21) rfl ?_); refine goesL_ (some 21) rfl rfl Try.func21 (by kernel_rfl) rfl #[.slice Ao190 t336.length co190] rfl argA ?_; (with_reducible refine (tree_Make.calls k _ _ t336 t359 t362 _ ?side1 ?side2 A130.out).mono ?_); (case side1 => exact upC ((Kd.V_reads' HO338.out).2.2)); (case side2 => exact (Kd.V_reads' HO338.out).2.1); rintro e w191 ⟨v360, rfl, ho0, hb⟩; refine ⟨_, rfl, ?_⟩; replace HO338 := Aside0.mk (Kd.V_below (upV HO338.out) hb); have HO361 := Aside0.mk (Kd.V_lower (Kd.V_mono (ok' := fun k_ => k_ ≠ gb335) ho0 (fun k_ hk_ => (Kd.freshB (upK BK335.out) k_ hk_))) (below_size (upB1 HB.out GE335.out))); replace BK335 := Aside0.mk (blk_below (upK BK335.out) hb); replace HB := Aside0.mk (below_step (upB1 HB.out GE335.out) hb); (try clear hb); (try clear hb2); (try clear hk); (try clear hi); (try clear ho0)) | ((with_reducible refine gate_dst (N := 5) rfl ?_); refine box_event ?hg (N := 5) ?hd (cs := #[.slice none 0 0]) (t := 24) ?hr ?_; (case hd => rfl); (case hg => rfl); (case hr => first | (go_simp; done) | (go_simp; rfl)); intro gb363 hg w192 hbox hb; replace HO338 := Aside0.mk (Kd.V_below (Kd.V_elderB (upV HO338.out) gb363 (Nat.le_of_eq hg.symm)) hb); replace HO361 := Aside0.mk (Kd.V_below (Kd.V_elderB (upV HO361.out) gb363 (Nat.le_of_eq hg.symm)) hb); have BK363 := Aside0.mk (hbox); have GW363 := Aside0.mk ((by rw [hg]; exact (below_size (upB1 HB.out GE335.out)) : w.heap.size ≤ gb363)); have GE363 := Aside0.mk ((by rw [hg]; exact (below_size (upB1 HB.out GE335.out)) : w.heap.size ≤ gb363)); replace HB := Aside0.mk (below_step (upB1 HB.out GE335.out) hb); have NB335_363 := Aside0.mk ((by rw [hg]; exact Nat.ne_of_lt (blk_lt (upK BK335.out)) : gb335 ≠ gb363)); have NB363_335 := Aside0.mk ((by rw [hg]; exact Nat.ne_of_gt (blk_lt (upK BK335.out)) : gb363 ≠ gb335)); replace BK335 := Aside0.mk (blk_below (upK BK335.out) hb); clear hb hbox hg; obtain ⟨Ao193, co193, eo193⟩ := Kd.V_slice HO361.out; subst eo193; have hnb194 := NB363_335.out; have hnc194 := NB335_363.out; obtain ⟨hcz195_0, hfz195_0⟩ := cells1 BK363.out) | ((with_reducible refine gate_callee (f := 22) rfl ?_); refine goesL_ (some 26) rfl rfl Try.func22 (by kernel_rfl) rfl #[.slice Ao190 t336.length co190] rfl argA ?_; (with_reducible refine (plinthref25_Make.calls k _ _ t336 t364 t367 _ ?side1 ?side2 A131.out).mono ?_); (case side1 => refine (Kd.V_reads' (e := 25) (base := w.heap.size) (ok := fun k_ => (k_ ≠ gb335 ∧ k_ ≠ gb363)) (n := t336.length) (c := co190) ?_).2.2; exact (by refine upV ?_; exact (fV1 (Kd.V_mono HO338.out (fun k_ hk => (⟨hk, hk.2⟩ : _ ∧ k_ ≠ gb363)))))); (case side2 => exact (Kd.V_reads' HO338.out).2.1); rintro e w196 ⟨v365, rfl, ho0, hb⟩; refine ⟨_, rfl, ?_⟩; replace HO338 := Aside0.mk (Kd.V_below (by refine upV ?_; exact (fV1 (Kd.V_mono HO338.out (fun k_ hk => (⟨hk, hk.2⟩ : _ ∧ k_ ≠ gb363))))) hb); replace HO361 := Aside0.mk (Kd.V_below (by refine upV ?_; exact (fV1 (Kd.V_mono HO361.out (fun k_ hk => (⟨hk, hk.2⟩ : _ ∧ k_ ≠ gb363))))) hb); have HO366 := Aside0.mk (Kd.V_lower (Kd.V_mono (ok' := fun k_ => k_ ≠ gb335 ∧ k_ ≠ gb363) ho0 (fun k_ hk_ => ⟨(Kd.freshB (g := gb335) (o := .cells #[.int .i64 a0_0, .int .i64 a0_1, .slice A0_2 l0_2.length c0_2] 39 (0, 0)) (by refine upK ?_; refine blk_far ?_ NB335_363.out _; refine upK ?_; exact BK335.out) k_ hk_), (Kd.freshB (g := gb363) (o := .cells #[.slice Ao193 t359.length co193] 24 (0, 0)) (by refine upK ?_; refine blk_put (cs := #[.slice none 0 0]) ?_ 0 _ rfl; refine upK ?_; exact BK363.out) k_ hk_)⟩)) (below_size (upB2 HB.out GE335.out GE363.out))); replace BK335 := Aside0.mk (blk_below (g := gb335) (o := .cells #[.int .i64 a0_0, .int .i64 a0_1, .slice A0_2 l0_2.length c0_2] 39 (0, 0)) (by refine upK ?_; refine blk_far ?_ NB335_363.out _; refine upK ?_; exact BK335.out) hb); replace BK363 := Aside0.mk (blk_below (g := gb363) (o := .cells #[.slice Ao193 t359.length co193] 24 (0, 0)) (by refine upK ?_; refine blk_put (cs := #[.slice none 0 0]) ?_ 0 _ rfl; refine upK ?_; exact BK363.out) hb); replace HB := Aside0.mk (below_step (upB2 HB.out GE335.out GE363.out) hb); (try clear hb); (try clear hb2); (try clear hk); (try clear hi); (try clear ho0)) | ((with_reducible refine gate_dst (N := 7) rfl ?_); refine box_event ?hg (N := 7) ?hd (cs := #[.slice none 0 0]) (t := 24) ?hr ?_; (case hd => rfl); (case hg => rfl); (case hr => first | (go_simp; done) | (go_simp; rfl)); intro gb368 hg w197 hbox hb; replace HO338 := Aside0.mk (Kd.V_below (Kd.V_elderB (upV HO338.out) gb368 (Nat.le_of_eq hg.symm)) hb); replace HO361 := Aside0.mk (Kd.V_below (Kd.V_elderB (upV HO361.out) gb368 (Nat.le_of_eq hg.symm)) hb); replace HO366 := Aside0.mk (Kd.V_below (Kd.V_elderB (upV HO366.out) gb368 (Nat.le_of_eq hg.symm)) hb); have BK368 := Aside0.mk (hbox); have GW368 := Aside0.mk ((by rw [hg]; exact (below_size (upB2 HB.out GE335.out GE363.out)) : w.heap.size ≤ gb368)); have GE368 := Aside0.mk ((by rw [hg]; exact (below_size (upB2 HB.out GE335.out GE363.out)) : w.heap.size ≤ gb368)); replace HB := Aside0.mk (below_step (upB2 HB.out GE335.out GE363.out) hb); have NB335_368 := Aside0.mk ((by rw [hg]; exact Nat.ne_of_lt (blk_lt (upK BK335.out)) : gb335 ≠ gb368)); have NB368_335 := Aside0.mk ((by rw [hg]; exact Nat.ne_of_gt (blk_lt (upK BK335.out)) : gb368 ≠ gb335)); replace BK335 := Aside0.mk (blk_below (upK BK335.out) hb); have NB363_368 := Aside0.mk ((by rw [hg]; exact Nat.ne_of_lt (blk_lt (upK BK363.out)) : gb363 ≠ gb368)); have NB368_363 := Aside0.mk ((by rw [hg]; exact Nat.ne_of_gt (blk_lt (upK BK363.out)) : gb368 ≠ gb363)); replace BK363 := Aside0.mk (blk_below (upK BK363.out) hb); clear hb hbox hg; obtain ⟨Ao198, co198, eo198⟩ := Kd.V_slice HO366.out; subst eo198; have hnb199 := NB368_335.out; have hnc199 := NB335_368.out; have hnb200 := NB368_363.out; have hnc200 := NB363_368.out; obtain ⟨hcz201_0, hfz201_0⟩ := cells1 BK368.out))
     have n0_ : Aside0 (Kd.V (Kd.int .u32) 25 (w197.setCell ⟨gb368, 0, none⟩ (.slice Ao198 t364.length co198)) w.heap.size (fun k_ => k_ ≠ gb335 ∧ k_ ≠ gb363 ∧ k_ ≠ gb368) (.slice Ao190 t336.length co190) t336) := ⟨by refine upV ?_; exact Kd.V_mono (garV1 (g := gb368) (Kd.V_mono HO338.out (fun k_ hk => (⟨hk, hk.2⟩ : _ ∧ k_ ≠ gb368))) 0 (.slice Ao198 t364.length co198)) (fun _ hk => ⟨hk.1.1.1, ⟨hk.1.1.2, hk.1.2⟩⟩)⟩
     have n1_ : Aside0 (Kd.V (Kd.slice 25 (Kd.int .u32)) 40 (w197.setCell ⟨gb368, 0, none⟩ (.slice Ao198 t364.length co198)) w.heap.size (fun k_ => k_ ≠ gb335 ∧ k_ ≠ gb363 ∧ k_ ≠ gb368) (.slice Ao193 t359.length co193) t359) := ⟨by refine upV ?_; exact Kd.V_mono (garV1 (g := gb368) (Kd.V_mono HO361.out (fun k_ hk => (⟨hk, hk.2⟩ : _ ∧ k_ ≠ gb368))) 0 (.slice Ao198 t364.length co198)) (fun _ hk => ⟨hk.1.1.1, ⟨hk.1.1.2, hk.1.2⟩⟩)⟩
     have n2_ : Aside0 (Kd.V (Kd.slice 25 (Kd.int .u32)) 40 (w197.setCell ⟨gb368, 0, none⟩ (.slice Ao198 t364.length co198)) w.heap.size (fun k_ => k_ ≠ gb335 ∧ k_ ≠ gb363 ∧ k_ ≠ gb368) (.slice Ao198 t364.length co198) t364) := ⟨by refine upV ?_; exact Kd.V_mono (garV1 (g := gb368) (Kd.V_mono HO366.out (fun k_ hk => (⟨hk, hk.2⟩ : _ ∧ k_ ≠ gb368))) 0 (.slice Ao198 t364.length co198)) (fun _ hk => ⟨hk.1.1.1, ⟨hk.1.1.2, hk.1.2⟩⟩)⟩
     have n3_ : Aside0 ((w197.setCell ⟨gb368, 0, none⟩ (.slice Ao198 t364.length co198)).heap[gb335]? = some (.cells #[.int .i64 a0_0, .int .i64 a0_1, .slice A0_2 l0_2.length c0_2] 39 (0, 0))) := ⟨by refine upK ?_; refine blk_far ?_ NB335_368.out _; refine upK ?_; exact BK335.out⟩
     have n4_ : Aside0 ((w197.setCell ⟨gb368, 0, none⟩ (.slice Ao198 t364.length co198)).heap[gb363]? = some (.cells #[.slice Ao193 t359.length co193] 24 (0, 0))) := ⟨by refine upK ?_; refine blk_far ?_ NB363_368.out _; refine upK ?_; exact BK363.out⟩
     have n5_ : Aside0 ((w197.setCell ⟨gb368, 0, none⟩ (.slice Ao198 t364.length co198)).heap[gb368]? = some (.cells #[.slice Ao198 t364.length co198] 24 (0, 0))) := ⟨by refine upK ?_; refine blk_put (cs := #[.slice none 0 0]) ?_ 0 _ rfl; refine upK ?_; exact BK368.out⟩
     have n6_ : Aside0 (Below w.heap.size w (w197.setCell ⟨gb368, 0, none⟩ (.slice Ao198 t364.length co198))) := ⟨upB3 HB.out GE335.out GE363.out GE368.out⟩
     (try clear HO338); (try clear HO361); (try clear HO366); (try clear BK335); (try clear BK363); (try clear BK368); (try clear HB)
     generalize (w197.setCell ⟨gb368, 0, none⟩ (.slice Ao198 t364.length co198)) = w202 at n0_ n1_ n2_ n3_ n4_ n5_ n6_ ⊢
     have HO338 := n0_
     have HO361 := n1_
     have HO366 := n2_
     have BK335 := n3_
     have BK363 := n4_
     have BK368 := n5_
     have HB := n6_
     clear n0_ n1_ n2_ n3_ n4_ n5_ n6_
     replace HO338 := Aside0.mk (Kd.V_drew HO338.out)
     replace HO361 := Aside0.mk (Kd.V_drew HO361.out)
     replace HO366 := Aside0.mk (Kd.V_drew HO366.out)
     replace BK335 := Aside0.mk (blk_drew BK335.out)
     replace BK363 := Aside0.mk (blk_drew BK363.out)
     replace BK368 := Aside0.mk (blk_drew BK368.out)
     replace HB := Aside0.mk (below_drew1 HB.out)
     refine start_ (n := 26) (S := fun w' => w'.cell? ⟨gb335, 0, none⟩ = some (.int .i64 a0_0) ∧ w'.cell? ⟨gb335, 1, none⟩ = some (.int .i64 a0_1) ∧ w'.cell? ⟨gb335, 2, none⟩ = some (.slice A0_2 l0_2.length c0_2) ∧ w'.cell? ⟨gb363, 0, none⟩ = some (.slice Ao193 t359.length co193) ∧ w'.cell? ⟨gb368, 0, none⟩ = some (.slice Ao198 t364.length co198)) (ds := []) (Array.replicate 26 false) (by kernel_rfl) rfl rfl ⟨(blk_cell BK335.out 0).trans rfl, (blk_cell BK335.out 1).trans rfl, (blk_cell BK335.out 2).trans rfl, (blk_cell BK363.out 0).trans rfl, (blk_cell BK368.out 0).trans rfl⟩ (fun hHeld => ?_); refine with_tabW plinthlaw25_TreeMakes.tab6 plinthlaw25_TreeMakes.bits6 (fun HT_ HW_ => ?_)
     generalize w202.drew = w203 at HO338 HO361 HO366 BK335 BK363 BK368 HB hHeld ⊢
     refine tM 0 29 HT_.out HW_.out hHeld ?_; refine tM 2 31 HT_.out HW_.out hHeld ?_
     refine oM 1 30 HT_.out (fun K hK => ?_)
     refine gM Try.func23 #[.agg #[.int .i64 a0_0, .int .i64 a0_1, .slice A0_2 l0_2.length c0_2]] ?_
     with_reducible refine (tree_Leaf.calls k a0_0 a0_1 (fun k_ => k_ < w.heap.size) _ _ l0_2 t369 _ ?side1 A132.out).mono ?_
     (case side1 => exact Kd.V_mk HC0_2.out (Kd.F_below (Kd.C_F (Kd.heap_int .u8) HR0_2.out) (upB3 HB.out GE335.out GE363.out GE368.out)))
     rintro e w204 ⟨rfl, hb⟩
     refine ⟨_, rfl, ?_⟩
     replace HO338 := Aside0.mk (Kd.V_below (upV HO338.out) hb)
     replace HO361 := Aside0.mk (Kd.V_below (upV HO361.out) hb)
     replace HO366 := Aside0.mk (Kd.V_below (upV HO366.out) hb)
     replace BK335 := Aside0.mk (blk_below (upK BK335.out) hb)
     replace BK363 := Aside0.mk (blk_below (upK BK363.out) hb)
     replace BK368 := Aside0.mk (blk_below (upK BK368.out) hb)
     replace HB := Aside0.mk (below_step (upB3 HB.out GE335.out GE363.out GE368.out) hb)
     (try clear hb); (try clear hb2); (try clear hk); (try clear hi)
     refine hK.out _ _ ⟨(blk_cell BK335.out 0).trans rfl, (blk_cell BK335.out 1).trans rfl, (blk_cell BK335.out 2).trans rfl, (blk_cell BK363.out 0).trans rfl, (blk_cell BK368.out 0).trans rfl⟩ (fun hHeld => ?_)
     clear hK K
     refine nM 30 ?_
     refine oM 3 32 HT_.out (fun K hK => ?_)
     refine gM Try.func24 #[.agg #[.int .i64 a0_0, .int .i64 a0_1, .slice A0_2 l0_2.length c0_2]] ?_
     with_reducible refine (plinthref25_Leaf.calls k a0_0 a0_1 (fun k_ => k_ < w.heap.size) _ _ l0_2 t370 _ ?side1 A133.out).mono ?_
     (case side1 => exact Kd.V_mk HC0_2.out (Kd.F_below (Kd.C_F (Kd.heap_int .u8) HR0_2.out) (upB3 HB.out GE335.out GE363.out GE368.out)))
     rintro e w205 ⟨rfl, hb⟩
     refine ⟨_, rfl, ?_⟩
     replace HO338 := Aside0.mk (Kd.V_below (upV HO338.out) hb)
     replace HO361 := Aside0.mk (Kd.V_below (upV HO361.out) hb)
     replace HO366 := Aside0.mk (Kd.V_below (upV HO366.out) hb)
     replace BK335 := Aside0.mk (blk_below (upK BK335.out) hb)
     replace BK363 := Aside0.mk (blk_below (upK BK363.out) hb)
     replace BK368 := Aside0.mk (blk_below (upK BK368.out) hb)
     replace HB := Aside0.mk (below_step (upB3 HB.out GE335.out GE363.out GE368.out) hb)
     (try clear hb); (try clear hb2); (try clear hk); (try clear hi)
     refine hK.out _ _ ⟨(blk_cell BK335.out 0).trans rfl, (blk_cell BK335.out 1).trans rfl, (blk_cell BK335.out 2).trans rfl, (blk_cell BK363.out 0).trans rfl, (blk_cell BK368.out 0).trans rfl⟩ (fun hHeld => ?_)
     clear hK K
     refine nM 32 ?_; refine pM 4 33 HT_.out ?_; refine pM 5 34 HT_.out ?_; refine pM 6 35 HT_.out ?_; refine pM 8 37 HT_.out ?_
     refine oM 7 36 HT_.out (fun K hK => ?_)
     refine gM Try.func25 #[.slice Ao190 t336.length co190] ?_
     with_reducible refine (tree_Row.calls k _ _ t336 t371 _ ?side1 ?side2 A135.out).mono ?_
     (case side1 => exact upC ((Kd.V_reads' HO338.out).2.2))
     (case side2 => exact (Kd.V_reads' HO338.out).2.1)
     rintro e w206 ⟨rfl, hb⟩
     refine ⟨_, rfl, ?_⟩
     replace HO338 := Aside0.mk (Kd.V_below (upV HO338.out) hb)
     replace HO361 := Aside0.mk (Kd.V_below (upV HO361.out) hb)
     replace HO366 := Aside0.mk (Kd.V_below (upV HO366.out) hb)
     replace BK335 := Aside0.mk (blk_below (upK BK335.out) hb)
     replace BK363 := Aside0.mk (blk_below (upK BK363.out) hb)
     replace BK368 := Aside0.mk (blk_below (upK BK368.out) hb)
     replace HB := Aside0.mk (below_step (upB3 HB.out GE335.out GE363.out GE368.out) hb)
     (try clear hb); (try clear hb2); (try clear hk); (try clear hi)
     refine hK.out _ _ ⟨(blk_cell BK335.out 0).trans rfl, (blk_cell BK335.out 1).trans rfl, (blk_cell BK335.out 2).trans rfl, (blk_cell BK363.out 0).trans rfl, (blk_cell BK368.out 0).trans rfl⟩ (fun hHeld => ?_)
     clear hK K
     refine nM 36 ?_
     refine oM 9 38 HT_.out (fun K hK => ?_)
     refine gM Try.func26 #[.slice Ao190 t336.length co190] ?_
     with_reducible refine (plinthref25_Row.calls k _ _ t336 t372 _ ?side1 ?side2 A136.out).mono ?_
     (case side1 => exact upC ((Kd.V_reads' HO338.out).2.2))
     (case side2 => exact (Kd.V_reads' HO338.out).2.1)
     rintro e w207 ⟨rfl, hb⟩
     refine ⟨_, rfl, ?_⟩
     replace HO338 := Aside0.mk (Kd.V_below (upV HO338.out) hb)
     replace HO361 := Aside0.mk (Kd.V_below (upV HO361.out) hb)
     replace HO366 := Aside0.mk (Kd.V_below (upV HO366.out) hb)
     replace BK335 := Aside0.mk (blk_below (upK BK335.out) hb)
     replace BK363 := Aside0.mk (blk_below (upK BK363.out) hb)
     replace BK368 := Aside0.mk (blk_below (upK BK368.out) hb)
     replace HB := Aside0.mk (below_step (upB3 HB.out GE335.out GE363.out GE368.out) hb)
     (try clear hb); (try clear hb2); (try clear hk); (try clear hi)
     refine hK.out _ _ ⟨(blk_cell BK335.out 0).trans rfl, (blk_cell BK335.out 1).trans rfl, (blk_cell BK335.out 2).trans rfl, (blk_cell BK363.out 0).trans rfl, (blk_cell BK368.out 0).trans rfl⟩ (fun hHeld => ?_)
     clear hK K
     refine nM 38 ?_; refine pM 10 39 HT_.out ?_; refine pM 11 40 HT_.out ?_; refine pM 12 41 HT_.out ?_; refine tM 13 42 HT_.out HW_.out hHeld ?_; refine tM 14 43 HT_.out HW_.out hHeld ?_
     refine oM 15 44 HT_.out (fun K hK => ?_)
     refine gM Try.func27 #[.agg #[.slice Ao193 t359.length co193], .agg #[.slice Ao198 t364.length co198]] ?_
     with_reducible refine (plinthref25_Same.calls k _ _ t359 _ _ t364 false _ ?side1 ?side2 ?side3 ?side4 A138.out).mono ?_
     (case side1 => exact upC ((Kd.V_reads' HO361.out).2.2))
     (case side2 => exact (Kd.V_reads' HO361.out).2.1)
     (case side3 => exact upC ((Kd.V_reads' HO366.out).2.2))
     (case side4 => exact (Kd.V_reads' HO366.out).2.1)
     rintro e w208 ⟨rfl, hb⟩
     refine ⟨_, rfl, ?_⟩
     replace HO338 := Aside0.mk (Kd.V_below (upV HO338.out) hb)
     replace HO361 := Aside0.mk (Kd.V_below (upV HO361.out) hb)
     replace HO366 := Aside0.mk (Kd.V_below (upV HO366.out) hb)
     replace BK335 := Aside0.mk (blk_below (upK BK335.out) hb)
     replace BK363 := Aside0.mk (blk_below (upK BK363.out) hb)
     replace BK368 := Aside0.mk (blk_below (upK BK368.out) hb)
     replace HB := Aside0.mk (below_step (upB3 HB.out GE335.out GE363.out GE368.out) hb)
     (try clear hb); (try clear hb2); (try clear hk); (try clear hi)
     refine hK.out _ _ ⟨(blk_cell BK335.out 0).trans rfl, (blk_cell BK335.out 1).trans rfl, (blk_cell BK335.out 2).trans rfl, (blk_cell BK363.out 0).trans rfl, (blk_cell BK368.out 0).trans rfl⟩ (fun hHeld => ?_)
     clear hK K
     refine nM 44 ?_; refine pM 16 45 HT_.out ?_; refine pM 17 46 HT_.out ?_; refine uM 18 47 HT_.out ?_; refine uM 19 48 HT_.out ?_; refine uM 20 49 HT_.out ?_; refine pM 21 50 HT_.out ?_; refine pM 22 51 HT_.out ?_; refine uM 23 52 HT_.out ?_; refine pM 24 53 HT_.out ?_; refine pM 25 4 HT_.out ?_
     refine done_ (done_of HT_.out (by kernel_rfl)) ?_
     try go_wp2
     go_ret
     exact ⟨by first | rfl | (simp [errW_none, errW_some] <;> rfl) | (simp [*, errW_none, errW_some] <;> rfl), upB3 HB.out GE335.out GE363.out GE368.out⟩
   ·rw [if_neg c137] at H
    have c137b0 : (t371 == t372) = false := beq_eq_false_iff_ne.mpr c137
    have c137b1 : (t371 != t372) = true := bne_iff_ne.mpr c137
    obtain rfl := Option.some.inj H
    go_enter Try.func4, Try.ntmps4
    try go_wp2_with (first | ((with_reducible refine gate_dst (N := 2) rfl ?_); refine box_event ?hg (N := 2) ?hd (cs := #[.int .i64 a0_0, .int .i64 a0_1, .slice A0_2 l0_2.length c0_2]) (t := 39) ?hr ?_; (case hd => rfl); (case hg => rfl); (case hr => first | (go_simp; done) | (go_simp; rfl)); intro gb335 hg w209 hbox hb; have BK335 := Aside0.mk (hbox); have GW335 := Aside0.mk ((by rw [hg]; exact (below_size (upB0 HB.out)) : w.heap.size ≤ gb335)); have GE335 := Aside0.mk ((by rw [hg]; exact (below_size (upB0 HB.out)) : w.heap.size ≤ gb335)); replace HB := Aside0.mk (below_step (upB0 HB.out) hb); clear hb hbox hg) | ((with_reducible refine gate_callee (f := 20) rfl ?_); refine goesL_ (some 10) rfl rfl Try.func20 (by kernel_rfl) rfl #[.slice A1 l1.length c1] rfl argA ?_; (with_reducible refine (plinthlaw25_few.calls (fun k_ => k_ < w.heap.size) _ _ l1 t336 _ ?side1 A3.out).mono ?_); (case side1 => exact Kd.V_mk HC1.out (Kd.F_below (Kd.C_F (Kd.heap_int .u32) HR1.out) (upB1 HB.out GE335.out))); rintro e w210 ⟨v337, rfl, ho0, hb⟩; refine ⟨_, rfl, ?_⟩; have HO338 := Aside0.mk (Kd.V_lower (Kd.V_mono (ok' := fun k_ => k_ ≠ gb335) ho0 (fun k_ hk_ => Or.elim hk_ (fun hs_ => fun e_ => Nat.not_le.2 hs_ (by rw [e_]; exact GW335.out)) (fun hn_ => (Kd.freshB (upK BK335.out) k_ hn_)))) (below_size (upB1 HB.out GE335.out))); replace BK335 := Aside0.mk (blk_below (upK BK335.out) hb); replace HB := Aside0.mk (below_step (upB1 HB.out GE335.out) hb); (try clear hb); (try clear hb2); (try clear hk); (try clear hi); (try clear ho0); obtain ⟨hcz211_0, hcz211_1, hcz211_2, hfz211_0, hfz211_1, hfz211_2⟩ := cells3 BK335.out; obtain ⟨Ao212, co212, eo212⟩ := Kd.V_slice HO338.out; subst eo212) | ((with_reducible refine gate_callee (f := 21) rfl ?_); refine goesL_ (some 21) rfl rfl Try.func21 (by kernel_rfl) rfl #[.slice Ao212 t336.length co212] rfl argA ?_; (with_reducible refine (tree_Make.calls k _ _ t336 t359 t362 _ ?side1 ?side2 A130.out).mono ?_); (case side1 => exact upC ((Kd.V_reads' HO338.out).2.2)); (case side2 => exact (Kd.V_reads' HO338.out).2.1); rintro e w213 ⟨v360, rfl, ho0, hb⟩; refine ⟨_, rfl, ?_⟩; replace HO338 := Aside0.mk (Kd.V_below (upV HO338.out) hb); have HO361 := Aside0.mk (Kd.V_lower (Kd.V_mono (ok' := fun k_ => k_ ≠ gb335) ho0 (fun k_ hk_ => (Kd.freshB (upK BK335.out) k_ hk_))) (below_size (upB1 HB.out GE335.out))); replace BK335 := Aside0.mk (blk_below (upK BK335.out) hb); replace HB := Aside0.mk (below_step (upB1 HB.out GE335.out) hb); (try clear hb); (try clear hb2); (try clear hk); (try clear hi); (try clear ho0)) | ((with_reducible refine gate_dst (N := 5) rfl ?_); refine box_event ?hg (N := 5) ?hd (cs := #[.slice none 0 0]) (t := 24) ?hr ?_; (case hd => rfl); (case hg => rfl); (case hr => first | (go_simp; done) | (go_simp; rfl)); intro gb363 hg w214 hbox hb; replace HO338 := Aside0.mk (Kd.V_below (Kd.V_elderB (upV HO338.out) gb363 (Nat.le_of_eq hg.symm)) hb); replace HO361 := Aside0.mk (Kd.V_below (Kd.V_elderB (upV HO361.out) gb363 (Nat.le_of_eq hg.symm)) hb); have BK363 := Aside0.mk (hbox); have GW363 := Aside0.mk ((by rw [hg]; exact (below_size (upB1 HB.out GE335.out)) : w.heap.size ≤ gb363)); have GE363 := Aside0.mk ((by rw [hg]; exact (below_size (upB1 HB.out GE335.out)) : w.heap.size ≤ gb363)); replace HB := Aside0.mk (below_step (upB1 HB.out GE335.out) hb); have NB335_363 := Aside0.mk ((by rw [hg]; exact Nat.ne_of_lt (blk_lt (upK BK335.out)) : gb335 ≠ gb363)); have NB363_335 := Aside0.mk ((by rw [hg]; exact Nat.ne_of_gt (blk_lt (upK BK335.out)) : gb363 ≠ gb335)); replace BK335 := Aside0.mk (blk_below (upK BK335.out) hb); clear hb hbox hg; obtain ⟨Ao215, co215, eo215⟩ := Kd.V_slice HO361.out; subst eo215; have hnb216 := NB363_335.out; have hnc216 := NB335_363.out; obtain ⟨hcz217_0, hfz217_0⟩ := cells1 BK363.out) | ((with_reducible refine gate_callee (f := 22) rfl ?_); refine goesL_ (some 26) rfl rfl Try.func22 (by kernel_rfl) rfl #[.slice Ao212 t336.length co212] rfl argA ?_; (with_reducible refine (plinthref25_Make.calls k _ _ t336 t364 t367 _ ?side1 ?side2 A131.out).mono ?_); (case side1 => refine (Kd.V_reads' (e := 25) (base := w.heap.size) (ok := fun k_ => (k_ ≠ gb335 ∧ k_ ≠ gb363)) (n := t336.length) (c := co212) ?_).2.2; exact (by refine upV ?_; exact (fV1 (Kd.V_mono HO338.out (fun k_ hk => (⟨hk, hk.2⟩ : _ ∧ k_ ≠ gb363)))))); (case side2 => exact (Kd.V_reads' HO338.out).2.1); rintro e w218 ⟨v365, rfl, ho0, hb⟩; refine ⟨_, rfl, ?_⟩; replace HO338 := Aside0.mk (Kd.V_below (by refine upV ?_; exact (fV1 (Kd.V_mono HO338.out (fun k_ hk => (⟨hk, hk.2⟩ : _ ∧ k_ ≠ gb363))))) hb); replace HO361 := Aside0.mk (Kd.V_below (by refine upV ?_; exact (fV1 (Kd.V_mono HO361.out (fun k_ hk => (⟨hk, hk.2⟩ : _ ∧ k_ ≠ gb363))))) hb); have HO366 := Aside0.mk (Kd.V_lower (Kd.V_mono (ok' := fun k_ => k_ ≠ gb335 ∧ k_ ≠ gb363) ho0 (fun k_ hk_ => ⟨(Kd.freshB (g := gb335) (o := .cells #[.int .i64 a0_0, .int .i64 a0_1, .slice A0_2 l0_2.length c0_2] 39 (0, 0)) (by refine upK ?_; refine blk_far ?_ NB335_363.out _; refine upK ?_; exact BK335.out) k_ hk_), (Kd.freshB (g := gb363) (o := .cells #[.slice Ao215 t359.length co215] 24 (0, 0)) (by refine upK ?_; refine blk_put (cs := #[.slice none 0 0]) ?_ 0 _ rfl; refine upK ?_; exact BK363.out) k_ hk_)⟩)) (below_size (upB2 HB.out GE335.out GE363.out))); replace BK335 := Aside0.mk (blk_below (g := gb335) (o := .cells #[.int .i64 a0_0, .int .i64 a0_1, .slice A0_2 l0_2.length c0_2] 39 (0, 0)) (by refine upK ?_; refine blk_far ?_ NB335_363.out _; refine upK ?_; exact BK335.out) hb); replace BK363 := Aside0.mk (blk_below (g := gb363) (o := .cells #[.slice Ao215 t359.length co215] 24 (0, 0)) (by refine upK ?_; refine blk_put (cs := #[.slice none 0 0]) ?_ 0 _ rfl; refine upK ?_; exact BK363.out) hb); replace HB := Aside0.mk (below_step (upB2 HB.out GE335.out GE363.out) hb); (try clear hb); (try clear hb2); (try clear hk); (try clear hi); (try clear ho0)) | ((with_reducible refine gate_dst (N := 7) rfl ?_); refine box_event ?hg (N := 7) ?hd (cs := #[.slice none 0 0]) (t := 24) ?hr ?_; (case hd => rfl); (case hg => rfl); (case hr => first | (go_simp; done) | (go_simp; rfl)); intro gb368 hg w219 hbox hb; replace HO338 := Aside0.mk (Kd.V_below (Kd.V_elderB (upV HO338.out) gb368 (Nat.le_of_eq hg.symm)) hb); replace HO361 := Aside0.mk (Kd.V_below (Kd.V_elderB (upV HO361.out) gb368 (Nat.le_of_eq hg.symm)) hb); replace HO366 := Aside0.mk (Kd.V_below (Kd.V_elderB (upV HO366.out) gb368 (Nat.le_of_eq hg.symm)) hb); have BK368 := Aside0.mk (hbox); have GW368 := Aside0.mk ((by rw [hg]; exact (below_size (upB2 HB.out GE335.out GE363.out)) : w.heap.size ≤ gb368)); have GE368 := Aside0.mk ((by rw [hg]; exact (below_size (upB2 HB.out GE335.out GE363.out)) : w.heap.size ≤ gb368)); replace HB := Aside0.mk (below_step (upB2 HB.out GE335.out GE363.out) hb); have NB335_368 := Aside0.mk ((by rw [hg]; exact Nat.ne_of_lt (blk_lt (upK BK335.out)) : gb335 ≠ gb368)); have NB368_335 := Aside0.mk ((by rw [hg]; exact Nat.ne_of_gt (blk_lt (upK BK335.out)) : gb368 ≠ gb335)); replace BK335 := Aside0.mk (blk_below (upK BK335.out) hb); have NB363_368 := Aside0.mk ((by rw [hg]; exact Nat.ne_of_lt (blk_lt (upK BK363.out)) : gb363 ≠ gb368)); have NB368_363 := Aside0.mk ((by rw [hg]; exact Nat.ne_of_gt (blk_lt (upK BK363.out)) : gb368 ≠ gb363)); replace BK363 := Aside0.mk (blk_below (upK BK363.out) hb); clear hb hbox hg; obtain ⟨Ao220, co220, eo220⟩ := Kd.V_slice HO366.out; subst eo220; have hnb221 := NB368_335.out; have hnc221 := NB335_368.out; have hnb222 := NB368_363.out; have hnc222 := NB363_368.out; obtain ⟨hcz223_0, hfz223_0⟩ := cells1 BK368.out))
    have n0_ : Aside0 (Kd.V (Kd.int .u32) 25 (w219.setCell ⟨gb368, 0, none⟩ (.slice Ao220 t364.length co220)) w.heap.size (fun k_ => k_ ≠ gb335 ∧ k_ ≠ gb363 ∧ k_ ≠ gb368) (.slice Ao212 t336.length co212) t336) := ⟨by refine upV ?_; exact Kd.V_mono (garV1 (g := gb368) (Kd.V_mono HO338.out (fun k_ hk => (⟨hk, hk.2⟩ : _ ∧ k_ ≠ gb368))) 0 (.slice Ao220 t364.length co220)) (fun _ hk => ⟨hk.1.1.1, ⟨hk.1.1.2, hk.1.2⟩⟩)⟩
    have n1_ : Aside0 (Kd.V (Kd.slice 25 (Kd.int .u32)) 40 (w219.setCell ⟨gb368, 0, none⟩ (.slice Ao220 t364.length co220)) w.heap.size (fun k_ => k_ ≠ gb335 ∧ k_ ≠ gb363 ∧ k_ ≠ gb368) (.slice Ao215 t359.length co215) t359) := ⟨by refine upV ?_; exact Kd.V_mono (garV1 (g := gb368) (Kd.V_mono HO361.out (fun k_ hk => (⟨hk, hk.2⟩ : _ ∧ k_ ≠ gb368))) 0 (.slice Ao220 t364.length co220)) (fun _ hk => ⟨hk.1.1.1, ⟨hk.1.1.2, hk.1.2⟩⟩)⟩
    have n2_ : Aside0 (Kd.V (Kd.slice 25 (Kd.int .u32)) 40 (w219.setCell ⟨gb368, 0, none⟩ (.slice Ao220 t364.length co220)) w.heap.size (fun k_ => k_ ≠ gb335 ∧ k_ ≠ gb363 ∧ k_ ≠ gb368) (.slice Ao220 t364.length co220) t364) := ⟨by refine upV ?_; exact Kd.V_mono (garV1 (g := gb368) (Kd.V_mono HO366.out (fun k_ hk => (⟨hk, hk.2⟩ : _ ∧ k_ ≠ gb368))) 0 (.slice Ao220 t364.length co220)) (fun _ hk => ⟨hk.1.1.1, ⟨hk.1.1.2, hk.1.2⟩⟩)⟩
    have n3_ : Aside0 ((w219.setCell ⟨gb368, 0, none⟩ (.slice Ao220 t364.length co220)).heap[gb335]? = some (.cells #[.int .i64 a0_0, .int .i64 a0_1, .slice A0_2 l0_2.length c0_2] 39 (0, 0))) := ⟨by refine upK ?_; refine blk_far ?_ NB335_368.out _; refine upK ?_; exact BK335.out⟩
    have n4_ : Aside0 ((w219.setCell ⟨gb368, 0, none⟩ (.slice Ao220 t364.length co220)).heap[gb363]? = some (.cells #[.slice Ao215 t359.length co215] 24 (0, 0))) := ⟨by refine upK ?_; refine blk_far ?_ NB363_368.out _; refine upK ?_; exact BK363.out⟩
    have n5_ : Aside0 ((w219.setCell ⟨gb368, 0, none⟩ (.slice Ao220 t364.length co220)).heap[gb368]? = some (.cells #[.slice Ao220 t364.length co220] 24 (0, 0))) := ⟨by refine upK ?_; refine blk_put (cs := #[.slice none 0 0]) ?_ 0 _ rfl; refine upK ?_; exact BK368.out⟩
    have n6_ : Aside0 (Below w.heap.size w (w219.setCell ⟨gb368, 0, none⟩ (.slice Ao220 t364.length co220))) := ⟨upB3 HB.out GE335.out GE363.out GE368.out⟩
    (try clear HO338); (try clear HO361); (try clear HO366); (try clear BK335); (try clear BK363); (try clear BK368); (try clear HB)
    generalize (w219.setCell ⟨gb368, 0, none⟩ (.slice Ao220 t364.length co220)) = w224 at n0_ n1_ n2_ n3_ n4_ n5_ n6_ ⊢
    have HO338 := n0_
    have HO361 := n1_
    have HO366 := n2_
    have BK335 := n3_
    have BK363 := n4_
    have BK368 := n5_
    have HB := n6_
    clear n0_ n1_ n2_ n3_ n4_ n5_ n6_
    replace HO338 := Aside0.mk (Kd.V_drew HO338.out)
    replace HO361 := Aside0.mk (Kd.V_drew HO361.out)
    replace HO366 := Aside0.mk (Kd.V_drew HO366.out)
    replace BK335 := Aside0.mk (blk_drew BK335.out)
    replace BK363 := Aside0.mk (blk_drew BK363.out)
    replace BK368 := Aside0.mk (blk_drew BK368.out)
    replace HB := Aside0.mk (below_drew1 HB.out)
    refine start_ (n := 26) (S := fun w' => w'.cell? ⟨gb335, 0, none⟩ = some (.int .i64 a0_0) ∧ w'.cell? ⟨gb335, 1, none⟩ = some (.int .i64 a0_1) ∧ w'.cell? ⟨gb335, 2, none⟩ = some (.slice A0_2 l0_2.length c0_2)) (ds := []) (Array.replicate 26 false) (by kernel_rfl) rfl rfl ⟨(blk_cell BK335.out 0).trans rfl, (blk_cell BK335.out 1).trans rfl, (blk_cell BK335.out 2).trans rfl⟩ (fun hHeld => ?_); refine with_tabW plinthlaw25_TreeMakes.tab6 plinthlaw25_TreeMakes.bits6 (fun HT_ HW_ => ?_)
    generalize w224.drew = w225 at HO338 HO361 HO366 BK335 BK363 BK368 HB hHeld ⊢
    refine tM 0 29 HT_.out HW_.out hHeld ?_; refine tM 2 31 HT_.out HW_.out hHeld ?_
    refine oM 1 30 HT_.out (fun K hK => ?_)
    refine gM Try.func23 #[.agg #[.int .i64 a0_0, .int .i64 a0_1, .slice A0_2 l0_2.length c0_2]] ?_
    with_reducible refine (tree_Leaf.calls k a0_0 a0_1 (fun k_ => k_ < w.heap.size) _ _ l0_2 t369 _ ?side1 A132.out).mono ?_
    (case side1 => exact Kd.V_mk HC0_2.out (Kd.F_below (Kd.C_F (Kd.heap_int .u8) HR0_2.out) (upB3 HB.out GE335.out GE363.out GE368.out)))
    rintro e w226 ⟨rfl, hb⟩
    refine ⟨_, rfl, ?_⟩
    replace HO338 := Aside0.mk (Kd.V_below (upV HO338.out) hb)
    replace HO361 := Aside0.mk (Kd.V_below (upV HO361.out) hb)
    replace HO366 := Aside0.mk (Kd.V_below (upV HO366.out) hb)
    replace BK335 := Aside0.mk (blk_below (upK BK335.out) hb)
    replace BK363 := Aside0.mk (blk_below (upK BK363.out) hb)
    replace BK368 := Aside0.mk (blk_below (upK BK368.out) hb)
    replace HB := Aside0.mk (below_step (upB3 HB.out GE335.out GE363.out GE368.out) hb)
    (try clear hb); (try clear hb2); (try clear hk); (try clear hi)
    refine hK.out _ _ ⟨(blk_cell BK335.out 0).trans rfl, (blk_cell BK335.out 1).trans rfl, (blk_cell BK335.out 2).trans rfl⟩ (fun hHeld => ?_)
    clear hK K
    refine nM 30 ?_
    refine oM 3 32 HT_.out (fun K hK => ?_)
    refine gM Try.func24 #[.agg #[.int .i64 a0_0, .int .i64 a0_1, .slice A0_2 l0_2.length c0_2]] ?_
    with_reducible refine (plinthref25_Leaf.calls k a0_0 a0_1 (fun k_ => k_ < w.heap.size) _ _ l0_2 t370 _ ?side1 A133.out).mono ?_
    (case side1 => exact Kd.V_mk HC0_2.out (Kd.F_below (Kd.C_F (Kd.heap_int .u8) HR0_2.out) (upB3 HB.out GE335.out GE363.out GE368.out)))
    rintro e w227 ⟨rfl, hb⟩
    refine ⟨_, rfl, ?_⟩
    replace HO338 := Aside0.mk (Kd.V_below (upV HO338.out) hb)
    replace HO361 := Aside0.mk (Kd.V_below (upV HO361.out) hb)
    replace HO366 := Aside0.mk (Kd.V_below (upV HO366.out) hb)
    replace BK335 := Aside0.mk (blk_below (upK BK335.out) hb)
    replace BK363 := Aside0.mk (blk_below (upK BK363.out) hb)
    replace BK368 := Aside0.mk (blk_below (upK BK368.out) hb)
    replace HB := Aside0.mk (below_step (upB3 HB.out GE335.out GE363.out GE368.out) hb)
    (try clear hb); (try clear hb2); (try clear hk); (try clear hi)
    refine hK.out _ _ ⟨(blk_cell BK335.out 0).trans rfl, (blk_cell BK335.out 1).trans rfl, (blk_cell BK335.out 2).trans rfl⟩ (fun hHeld => ?_)
    clear hK K
    refine nM 32 ?_; refine pM 4 33 HT_.out ?_; refine pM 5 34 HT_.out ?_; refine pM 6 35 HT_.out ?_; refine pM 8 37 HT_.out ?_
    refine oM 7 36 HT_.out (fun K hK => ?_)
    refine gM Try.func25 #[.slice Ao212 t336.length co212] ?_
    with_reducible refine (tree_Row.calls k _ _ t336 t371 _ ?side1 ?side2 A135.out).mono ?_
    (case side1 => exact upC ((Kd.V_reads' HO338.out).2.2))
    (case side2 => exact (Kd.V_reads' HO338.out).2.1)
    rintro e w228 ⟨rfl, hb⟩
    refine ⟨_, rfl, ?_⟩
    replace HO338 := Aside0.mk (Kd.V_below (upV HO338.out) hb)
    replace HO361 := Aside0.mk (Kd.V_below (upV HO361.out) hb)
    replace HO366 := Aside0.mk (Kd.V_below (upV HO366.out) hb)
    replace BK335 := Aside0.mk (blk_below (upK BK335.out) hb)
    replace BK363 := Aside0.mk (blk_below (upK BK363.out) hb)
    replace BK368 := Aside0.mk (blk_below (upK BK368.out) hb)
    replace HB := Aside0.mk (below_step (upB3 HB.out GE335.out GE363.out GE368.out) hb)
    (try clear hb); (try clear hb2); (try clear hk); (try clear hi)
    refine hK.out _ _ ⟨(blk_cell BK335.out 0).trans rfl, (blk_cell BK335.out 1).trans rfl, (blk_cell BK335.out 2).trans rfl⟩ (fun hHeld => ?_)
    clear hK K
    refine nM 36 ?_
    refine oM 9 38 HT_.out (fun K hK => ?_)
    refine gM Try.func26 #[.slice Ao212 t336.length co212] ?_
    with_reducible refine (plinthref25_Row.calls k _ _ t336 t372 _ ?side1 ?side2 A136.out).mono ?_
    (case side1 => exact upC ((Kd.V_reads' HO338.out).2.2))
    (case side2 => exact (Kd.V_reads' HO338.out).2.1)
    rintro e w229 ⟨rfl, hb⟩
    refine ⟨_, rfl, ?_⟩
    replace HO338 := Aside0.mk (Kd.V_below (upV HO338.out) hb)
    replace HO361 := Aside0.mk (Kd.V_below (upV HO361.out) hb)
    replace HO366 := Aside0.mk (Kd.V_below (upV HO366.out) hb)
    replace BK335 := Aside0.mk (blk_below (upK BK335.out) hb)
    replace BK363 := Aside0.mk (blk_below (upK BK363.out) hb)
    replace BK368 := Aside0.mk (blk_below (upK BK368.out) hb)
    replace HB := Aside0.mk (below_step (upB3 HB.out GE335.out GE363.out GE368.out) hb)
    (try clear hb); (try clear hb2); (try clear hk); (try clear hi)
    refine hK.out _ _ ⟨(blk_cell BK335.out 0).trans rfl, (blk_cell BK335.out 1).trans rfl, (blk_cell BK335.out 2).trans rfl⟩ (fun hHeld => ?_)
    clear hK K
    refine nM 38 ?_; refine pM 10 39 HT_.out ?_; refine pM 11 40 HT_.out ?_; refine pM 12 41 HT_.out ?_; refine uM 13 42 HT_.out ?_; refine uM 14 43 HT_.out ?_; refine uM 15 44 HT_.out ?_; refine pM 16 45 HT_.out ?_; refine pM 17 46 HT_.out ?_; refine uM 18 47 HT_.out ?_; refine uM 19 48 HT_.out ?_; refine uM 20 49 HT_.out ?_; refine pM 21 50 HT_.out ?_; refine pM 22 51 HT_.out ?_; refine uM 23 52 HT_.out ?_; refine pM 24 53 HT_.out ?_; refine pM 25 4 HT_.out ?_
    refine done_ (done_of HT_.out (by kernel_rfl)) ?_
    try go_wp2
    go_ret
    exact ⟨by first | rfl | (simp [errW_none, errW_some] <;> rfl) | (simp [*, errW_none, errW_some] <;> rfl), upB3 HB.out GE335.out GE363.out GE368.out⟩
  ·rw [if_neg c134] at H
   have c134b0 : (t369 == t370) = false := beq_eq_false_iff_ne.mpr c134
   have c134b1 : (t369 != t370) = true := bne_iff_ne.mpr c134
   obtain rfl := Option.some.inj H
   go_enter Try.func4, Try.ntmps4
   try go_wp2_with (first | ((with_reducible refine gate_dst (N := 2) rfl ?_); refine box_event ?hg (N := 2) ?hd (cs := #[.int .i64 a0_0, .int .i64 a0_1, .slice A0_2 l0_2.length c0_2]) (t := 39) ?hr ?_; (case hd => rfl); (case hg => rfl); (case hr => first | (go_simp; done) | (go_simp; rfl)); intro gb335 hg w230 hbox hb; have BK335 := Aside0.mk (hbox); have GW335 := Aside0.mk ((by rw [hg]; exact (below_size (upB0 HB.out)) : w.heap.size ≤ gb335)); have GE335 := Aside0.mk ((by rw [hg]; exact (below_size (upB0 HB.out)) : w.heap.size ≤ gb335)); replace HB := Aside0.mk (below_step (upB0 HB.out) hb); clear hb hbox hg) | ((with_reducible refine gate_callee (f := 20) rfl ?_); refine goesL_ (some 10) rfl rfl Try.func20 (by kernel_rfl) rfl #[.slice A1 l1.length c1] rfl argA ?_; (with_reducible refine (plinthlaw25_few.calls (fun k_ => k_ < w.heap.size) _ _ l1 t336 _ ?side1 A3.out).mono ?_); (case side1 => exact Kd.V_mk HC1.out (Kd.F_below (Kd.C_F (Kd.heap_int .u32) HR1.out) (upB1 HB.out GE335.out))); rintro e w231 ⟨v337, rfl, ho0, hb⟩; refine ⟨_, rfl, ?_⟩; have HO338 := Aside0.mk (Kd.V_lower (Kd.V_mono (ok' := fun k_ => k_ ≠ gb335) ho0 (fun k_ hk_ => Or.elim hk_ (fun hs_ => fun e_ => Nat.not_le.2 hs_ (by rw [e_]; exact GW335.out)) (fun hn_ => (Kd.freshB (upK BK335.out) k_ hn_)))) (below_size (upB1 HB.out GE335.out))); replace BK335 := Aside0.mk (blk_below (upK BK335.out) hb); replace HB := Aside0.mk (below_step (upB1 HB.out GE335.out) hb); (try clear hb); (try clear hb2); (try clear hk); (try clear hi); (try clear ho0); obtain ⟨hcz232_0, hcz232_1, hcz232_2, hfz232_0, hfz232_1, hfz232_2⟩ := cells3 BK335.out; obtain ⟨Ao233, co233, eo233⟩ := Kd.V_slice HO338.out; subst eo233) | ((with_reducible refine gate_callee (f := 21) rfl ?_); refine goesL_ (some 21) rfl rfl Try.func21 (by kernel_rfl) rfl #[.slice Ao233 t336.length co233] rfl argA ?_; (with_reducible refine (tree_Make.calls k _ _ t336 t359 t362 _ ?side1 ?side2 A130.out).mono ?_); (case side1 => exact upC ((Kd.V_reads' HO338.out).2.2)); (case side2 => exact (Kd.V_reads' HO338.out).2.1); rintro e w234 ⟨v360, rfl, ho0, hb⟩; refine ⟨_, rfl, ?_⟩; replace HO338 := Aside0.mk (Kd.V_below (upV HO338.out) hb); have HO361 := Aside0.mk (Kd.V_lower (Kd.V_mono (ok' := fun k_ => k_ ≠ gb335) ho0 (fun k_ hk_ => (Kd.freshB (upK BK335.out) k_ hk_))) (below_size (upB1 HB.out GE335.out))); replace BK335 := Aside0.mk (blk_below (upK BK335.out) hb); replace HB := Aside0.mk (below_step (upB1 HB.out GE335.out) hb); (try clear hb); (try clear hb2); (try clear hk); (try clear hi); (try clear ho0)) | ((with_reducible refine gate_dst (N := 5) rfl ?_); refine box_event ?hg (N := 5) ?hd (cs := #[.slice none 0 0]) (t := 24) ?hr ?_; (case hd => rfl); (case hg => rfl); (case hr => first | (go_simp; done) | (go_simp; rfl)); intro gb363 hg w235 hbox hb; replace HO338 := Aside0.mk (Kd.V_below (Kd.V_elderB (upV HO338.out) gb363 (Nat.le_of_eq hg.symm)) hb); replace HO361 := Aside0.mk (Kd.V_below (Kd.V_elderB (upV HO361.out) gb363 (Nat.le_of_eq hg.symm)) hb); have BK363 := Aside0.mk (hbox); have GW363 := Aside0.mk ((by rw [hg]; exact (below_size (upB1 HB.out GE335.out)) : w.heap.size ≤ gb363)); have GE363 := Aside0.mk ((by rw [hg]; exact (below_size (upB1 HB.out GE335.out)) : w.heap.size ≤ gb363)); replace HB := Aside0.mk (below_step (upB1 HB.out GE335.out) hb); have NB335_363 := Aside0.mk ((by rw [hg]; exact Nat.ne_of_lt (blk_lt (upK BK335.out)) : gb335 ≠ gb363)); have NB363_335 := Aside0.mk ((by rw [hg]; exact Nat.ne_of_gt (blk_lt (upK BK335.out)) : gb363 ≠ gb335)); replace BK335 := Aside0.mk (blk_below (upK BK335.out) hb); clear hb hbox hg; obtain ⟨Ao236, co236, eo236⟩ := Kd.V_slice HO361.out; subst eo236; have hnb237 := NB363_335.out; have hnc237 := NB335_363.out; obtain ⟨hcz238_0, hfz238_0⟩ := cells1 BK363.out) | ((with_reducible refine gate_callee (f := 22) rfl ?_); refine goesL_ (some 26) rfl rfl Try.func22 (by kernel_rfl) rfl #[.slice Ao233 t336.length co233] rfl argA ?_; (with_reducible refine (plinthref25_Make.calls k _ _ t336 t364 t367 _ ?side1 ?side2 A131.out).mono ?_); (case side1 => refine (Kd.V_reads' (e := 25) (base := w.heap.size) (ok := fun k_ => (k_ ≠ gb335 ∧ k_ ≠ gb363)) (n := t336.length) (c := co233) ?_).2.2; exact (by refine upV ?_; exact (fV1 (Kd.V_mono HO338.out (fun k_ hk => (⟨hk, hk.2⟩ : _ ∧ k_ ≠ gb363)))))); (case side2 => exact (Kd.V_reads' HO338.out).2.1); rintro e w239 ⟨v365, rfl, ho0, hb⟩; refine ⟨_, rfl, ?_⟩; replace HO338 := Aside0.mk (Kd.V_below (by refine upV ?_; exact (fV1 (Kd.V_mono HO338.out (fun k_ hk => (⟨hk, hk.2⟩ : _ ∧ k_ ≠ gb363))))) hb); replace HO361 := Aside0.mk (Kd.V_below (by refine upV ?_; exact (fV1 (Kd.V_mono HO361.out (fun k_ hk => (⟨hk, hk.2⟩ : _ ∧ k_ ≠ gb363))))) hb); have HO366 := Aside0.mk (Kd.V_lower (Kd.V_mono (ok' := fun k_ => k_ ≠ gb335 ∧ k_ ≠ gb363) ho0 (fun k_ hk_ => ⟨(Kd.freshB (g := gb335) (o := .cells #[.int .i64 a0_0, .int .i64 a0_1, .slice A0_2 l0_2.length c0_2] 39 (0, 0)) (by refine upK ?_; refine blk_far ?_ NB335_363.out _; refine upK ?_; exact BK335.out) k_ hk_), (Kd.freshB (g := gb363) (o := .cells #[.slice Ao236 t359.length co236] 24 (0, 0)) (by refine upK ?_; refine blk_put (cs := #[.slice none 0 0]) ?_ 0 _ rfl; refine upK ?_; exact BK363.out) k_ hk_)⟩)) (below_size (upB2 HB.out GE335.out GE363.out))); replace BK335 := Aside0.mk (blk_below (g := gb335) (o := .cells #[.int .i64 a0_0, .int .i64 a0_1, .slice A0_2 l0_2.length c0_2] 39 (0, 0)) (by refine upK ?_; refine blk_far ?_ NB335_363.out _; refine upK ?_; exact BK335.out) hb); replace BK363 := Aside0.mk (blk_below (g := gb363) (o := .cells #[.slice Ao236 t359.length co236] 24 (0, 0)) (by refine upK ?_; refine blk_put (cs := #[.slice none 0 0]) ?_ 0 _ rfl; refine upK ?_; exact BK363.out) hb); replace HB := Aside0.mk (below_step (upB2 HB.out GE335.out GE363.out) hb); (try clear hb); (try clear hb2); (try clear hk); (try clear hi); (try clear ho0)) | ((with_reducible refine gate_dst (N := 7) rfl ?_); refine box_event ?hg (N := 7) ?hd (cs := #[.slice none 0 0]) (t := 24) ?hr ?_; (case hd => rfl); (case hg => rfl); (case hr => first | (go_simp; done) | (go_simp; rfl)); intro gb368 hg w240 hbox hb; replace HO338 := Aside0.mk (Kd.V_below (Kd.V_elderB (upV HO338.out) gb368 (Nat.le_of_eq hg.symm)) hb); replace HO361 := Aside0.mk (Kd.V_below (Kd.V_elderB (upV HO361.out) gb368 (Nat.le_of_eq hg.symm)) hb); replace HO366 := Aside0.mk (Kd.V_below (Kd.V_elderB (upV HO366.out) gb368 (Nat.le_of_eq hg.symm)) hb); have BK368 := Aside0.mk (hbox); have GW368 := Aside0.mk ((by rw [hg]; exact (below_size (upB2 HB.out GE335.out GE363.out)) : w.heap.size ≤ gb368)); have GE368 := Aside0.mk ((by rw [hg]; exact (below_size (upB2 HB.out GE335.out GE363.out)) : w.heap.size ≤ gb368)); replace HB := Aside0.mk (below_step (upB2 HB.out GE335.out GE363.out) hb); have NB335_368 := Aside0.mk ((by rw [hg]; exact Nat.ne_of_lt (blk_lt (upK BK335.out)) : gb335 ≠ gb368)); have NB368_335 := Aside0.mk ((by rw [hg]; exact Nat.ne_of_gt (blk_lt (upK BK335.out)) : gb368 ≠ gb335)); replace BK335 := Aside0.mk (blk_below (upK BK335.out) hb); have NB363_368 := Aside0.mk ((by rw [hg]; exact Nat.ne_of_lt (blk_lt (upK BK363.out)) : gb363 ≠ gb368)); have NB368_363 := Aside0.mk ((by rw [hg]; exact Nat.ne_of_gt (blk_lt (upK BK363.out)) : gb368 ≠ gb363)); replace BK363 := Aside0.mk (blk_below (upK BK363.out) hb); clear hb hbox hg; obtain ⟨Ao241, co241, eo241⟩ := Kd.V_slice HO366.out; subst eo241; have hnb242 := NB368_335.out; have hnc242 := NB335_368.out; have hnb243 := NB368_363.out; have hnc243 := NB363_368.out; obtain ⟨hcz244_0, hfz244_0⟩ := cells1 BK368.out))
   have n0_ : Aside0 (Kd.V (Kd.int .u32) 25 (w240.setCell ⟨gb368, 0, none⟩ (.slice Ao241 t364.length co241)) w.heap.size (fun k_ => k_ ≠ gb335 ∧ k_ ≠ gb363 ∧ k_ ≠ gb368) (.slice Ao233 t336.length co233) t336) := ⟨by refine upV ?_; exact Kd.V_mono (garV1 (g := gb368) (Kd.V_mono HO338.out (fun k_ hk => (⟨hk, hk.2⟩ : _ ∧ k_ ≠ gb368))) 0 (.slice Ao241 t364.length co241)) (fun _ hk => ⟨hk.1.1.1, ⟨hk.1.1.2, hk.1.2⟩⟩)⟩
   have n1_ : Aside0 (Kd.V (Kd.slice 25 (Kd.int .u32)) 40 (w240.setCell ⟨gb368, 0, none⟩ (.slice Ao241 t364.length co241)) w.heap.size (fun k_ => k_ ≠ gb335 ∧ k_ ≠ gb363 ∧ k_ ≠ gb368) (.slice Ao236 t359.length co236) t359) := ⟨by refine upV ?_; exact Kd.V_mono (garV1 (g := gb368) (Kd.V_mono HO361.out (fun k_ hk => (⟨hk, hk.2⟩ : _ ∧ k_ ≠ gb368))) 0 (.slice Ao241 t364.length co241)) (fun _ hk => ⟨hk.1.1.1, ⟨hk.1.1.2, hk.1.2⟩⟩)⟩
   have n2_ : Aside0 (Kd.V (Kd.slice 25 (Kd.int .u32)) 40 (w240.setCell ⟨gb368, 0, none⟩ (.slice Ao241 t364.length co241)) w.heap.size (fun k_ => k_ ≠ gb335 ∧ k_ ≠ gb363 ∧ k_ ≠ gb368) (.slice Ao241 t364.length co241) t364) := ⟨by refine upV ?_; exact Kd.V_mono (garV1 (g := gb368) (Kd.V_mono HO366.out (fun k_ hk => (⟨hk, hk.2⟩ : _ ∧ k_ ≠ gb368))) 0 (.slice Ao241 t364.length co241)) (fun _ hk => ⟨hk.1.1.1, ⟨hk.1.1.2, hk.1.2⟩⟩)⟩
   have n3_ : Aside0 ((w240.setCell ⟨gb368, 0, none⟩ (.slice Ao241 t364.length co241)).heap[gb335]? = some (.cells #[.int .i64 a0_0, .int .i64 a0_1, .slice A0_2 l0_2.length c0_2] 39 (0, 0))) := ⟨by refine upK ?_; refine blk_far ?_ NB335_368.out _; refine upK ?_; exact BK335.out⟩
   have n4_ : Aside0 ((w240.setCell ⟨gb368, 0, none⟩ (.slice Ao241 t364.length co241)).heap[gb363]? = some (.cells #[.slice Ao236 t359.length co236] 24 (0, 0))) := ⟨by refine upK ?_; refine blk_far ?_ NB363_368.out _; refine upK ?_; exact BK363.out⟩
   have n5_ : Aside0 ((w240.setCell ⟨gb368, 0, none⟩ (.slice Ao241 t364.length co241)).heap[gb368]? = some (.cells #[.slice Ao241 t364.length co241] 24 (0, 0))) := ⟨by refine upK ?_; refine blk_put (cs := #[.slice none 0 0]) ?_ 0 _ rfl; refine upK ?_; exact BK368.out⟩
   have n6_ : Aside0 (Below w.heap.size w (w240.setCell ⟨gb368, 0, none⟩ (.slice Ao241 t364.length co241))) := ⟨upB3 HB.out GE335.out GE363.out GE368.out⟩
   (try clear HO338); (try clear HO361); (try clear HO366); (try clear BK335); (try clear BK363); (try clear BK368); (try clear HB)
   generalize (w240.setCell ⟨gb368, 0, none⟩ (.slice Ao241 t364.length co241)) = w245 at n0_ n1_ n2_ n3_ n4_ n5_ n6_ ⊢
   have HO338 := n0_
   have HO361 := n1_
   have HO366 := n2_
   have BK335 := n3_
   have BK363 := n4_
   have BK368 := n5_
   have HB := n6_
   clear n0_ n1_ n2_ n3_ n4_ n5_ n6_
   replace HO338 := Aside0.mk (Kd.V_drew HO338.out)
   replace HO361 := Aside0.mk (Kd.V_drew HO361.out)
   replace HO366 := Aside0.mk (Kd.V_drew HO366.out)
   replace BK335 := Aside0.mk (blk_drew BK335.out)
   replace BK363 := Aside0.mk (blk_drew BK363.out)
   replace BK368 := Aside0.mk (blk_drew BK368.out)
   replace HB := Aside0.mk (below_drew1 HB.out)
   refine start_ (n := 26) (S := fun w' => w'.cell? ⟨gb335, 0, none⟩ = some (.int .i64 a0_0) ∧ w'.cell? ⟨gb335, 1, none⟩ = some (.int .i64 a0_1) ∧ w'.cell? ⟨gb335, 2, none⟩ = some (.slice A0_2 l0_2.length c0_2)) (ds := []) (Array.replicate 26 false) (by kernel_rfl) rfl rfl ⟨(blk_cell BK335.out 0).trans rfl, (blk_cell BK335.out 1).trans rfl, (blk_cell BK335.out 2).trans rfl⟩ (fun hHeld => ?_); refine with_tabW plinthlaw25_TreeMakes.tab6 plinthlaw25_TreeMakes.bits6 (fun HT_ HW_ => ?_)
   generalize w245.drew = w246 at HO338 HO361 HO366 BK335 BK363 BK368 HB hHeld ⊢
   refine tM 0 29 HT_.out HW_.out hHeld ?_; refine tM 2 31 HT_.out HW_.out hHeld ?_
   refine oM 1 30 HT_.out (fun K hK => ?_)
   refine gM Try.func23 #[.agg #[.int .i64 a0_0, .int .i64 a0_1, .slice A0_2 l0_2.length c0_2]] ?_
   with_reducible refine (tree_Leaf.calls k a0_0 a0_1 (fun k_ => k_ < w.heap.size) _ _ l0_2 t369 _ ?side1 A132.out).mono ?_
   (case side1 => exact Kd.V_mk HC0_2.out (Kd.F_below (Kd.C_F (Kd.heap_int .u8) HR0_2.out) (upB3 HB.out GE335.out GE363.out GE368.out)))
   rintro e w247 ⟨rfl, hb⟩
   refine ⟨_, rfl, ?_⟩
   replace HO338 := Aside0.mk (Kd.V_below (upV HO338.out) hb)
   replace HO361 := Aside0.mk (Kd.V_below (upV HO361.out) hb)
   replace HO366 := Aside0.mk (Kd.V_below (upV HO366.out) hb)
   replace BK335 := Aside0.mk (blk_below (upK BK335.out) hb)
   replace BK363 := Aside0.mk (blk_below (upK BK363.out) hb)
   replace BK368 := Aside0.mk (blk_below (upK BK368.out) hb)
   replace HB := Aside0.mk (below_step (upB3 HB.out GE335.out GE363.out GE368.out) hb)
   (try clear hb); (try clear hb2); (try clear hk); (try clear hi)
   refine hK.out _ _ ⟨(blk_cell BK335.out 0).trans rfl, (blk_cell BK335.out 1).trans rfl, (blk_cell BK335.out 2).trans rfl⟩ (fun hHeld => ?_)
   clear hK K
   refine nM 30 ?_
   refine oM 3 32 HT_.out (fun K hK => ?_)
   refine gM Try.func24 #[.agg #[.int .i64 a0_0, .int .i64 a0_1, .slice A0_2 l0_2.length c0_2]] ?_
   with_reducible refine (plinthref25_Leaf.calls k a0_0 a0_1 (fun k_ => k_ < w.heap.size) _ _ l0_2 t370 _ ?side1 A133.out).mono ?_
   (case side1 => exact Kd.V_mk HC0_2.out (Kd.F_below (Kd.C_F (Kd.heap_int .u8) HR0_2.out) (upB3 HB.out GE335.out GE363.out GE368.out)))
   rintro e w248 ⟨rfl, hb⟩
   refine ⟨_, rfl, ?_⟩
   replace HO338 := Aside0.mk (Kd.V_below (upV HO338.out) hb)
   replace HO361 := Aside0.mk (Kd.V_below (upV HO361.out) hb)
   replace HO366 := Aside0.mk (Kd.V_below (upV HO366.out) hb)
   replace BK335 := Aside0.mk (blk_below (upK BK335.out) hb)
   replace BK363 := Aside0.mk (blk_below (upK BK363.out) hb)
   replace BK368 := Aside0.mk (blk_below (upK BK368.out) hb)
   replace HB := Aside0.mk (below_step (upB3 HB.out GE335.out GE363.out GE368.out) hb)
   (try clear hb); (try clear hb2); (try clear hk); (try clear hi)
   refine hK.out _ _ ⟨(blk_cell BK335.out 0).trans rfl, (blk_cell BK335.out 1).trans rfl, (blk_cell BK335.out 2).trans rfl⟩ (fun hHeld => ?_)
   clear hK K
   refine nM 32 ?_; refine pM 4 33 HT_.out ?_; refine pM 5 34 HT_.out ?_; refine uM 6 35 HT_.out ?_; refine uM 7 36 HT_.out ?_; refine uM 8 37 HT_.out ?_; refine uM 9 38 HT_.out ?_; refine uM 10 39 HT_.out ?_; refine pM 11 40 HT_.out ?_; refine pM 12 41 HT_.out ?_; refine uM 13 42 HT_.out ?_; refine uM 14 43 HT_.out ?_; refine uM 15 44 HT_.out ?_; refine pM 16 45 HT_.out ?_; refine pM 17 46 HT_.out ?_; refine uM 18 47 HT_.out ?_; refine uM 19 48 HT_.out ?_; refine uM 20 49 HT_.out ?_; refine pM 21 50 HT_.out ?_; refine pM 22 51 HT_.out ?_; refine uM 23 52 HT_.out ?_; refine pM 24 53 HT_.out ?_; refine pM 25 4 HT_.out ?_
   refine done_ (done_of HT_.out (by kernel_rfl)) ?_
   try go_wp2
   go_ret
   exact ⟨by first | rfl | (simp [errW_none, errW_some] <;> rfl) | (simp [*, errW_none, errW_some] <;> rfl), upB3 HB.out GE335.out GE363.out GE368.out⟩
theorem plinthlaw25_TreeMakes.calls (k : Nat) (a0_0 : Int) (a0_1 : Int) (A0_2 : Option Addr) (c0_2 : Nat) (l0_2 : List Int) (A1 : Option Addr) (c1 : Nat) (l1 : List Int) (r : Bool) (w : World) (hr0_2 : Kd.C (Kd.int .u8) w A0_2 l0_2.length l0_2) (hc0_2 : l0_2.length ≤ c0_2) (hr1 : Kd.C (Kd.int .u32) w A1 l1.length l1) (hc1 : l1.length ≤ c1) (h : plinthlaw25_TreeMakes.f k a0_0 a0_1 l0_2 l1 = some r) :
  Calls Try.prog 4 #[.agg #[.int .i64 a0_0, .int .i64 a0_1, .slice A0_2 l0_2.length c0_2], .slice A1 l1.length c1] w fun e w' => e = .returned (.bool r) ∧ Below w.heap.size w w' := by
 by_cases c4 : (l0_2.length : Int) > 5000
 ·exact plinthlaw25_TreeMakes.callsA k a0_0 a0_1 A0_2 c0_2 l0_2 A1 c1 l1 r w hr0_2 hc0_2 hr1 hc1 h c4
 ·exact plinthlaw25_TreeMakes.callsB k a0_0 a0_1 A0_2 c0_2 l0_2 A1 c1 l1 r w hr0_2 hc0_2 hr1 hc1 h c4
end Go.Proofs.Ytbmmddngadnofaa.F
