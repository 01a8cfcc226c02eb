-- Written by ext (this session's own program).
import Derived.Test.YtogjpilkgghidaaFx0
import Derived.Test.YtogjpilkgghidaaFx2
import Derived.Test.YtogjpilkgghidaaFx11
import Derived.Test.YtogjpilkgghidaaFx12
import Derived.Test.YtogjpilkgghidaaFx13
namespace Go.Proofs.Ytogjpilkgghidaa.F
open Go.RowKit Go.Proofs.YtogjpilkgghidaaW.PrintWords Go.Proofs.YtogjpilkgghidaaW.PrintLast Go.Proofs.YtogjpilkgghidaaW.PrintMore
attribute [local go_sem] max2_int min2_int max_two min_two max_three min_three max_four min_four   -- for this text's walks alone
set_option linter.unusedVariables false
set_option linter.unusedSimpArgs false

/-! ### block_DecodeOp: function 14 -/
theorem block_DecodeOp.ups0 {p q r0 : Prop} (a : p) (g0_ : r0) (h : p → r0 → q := by intro h_ g0_; repeat (first | (with_reducible first | exact h_ | apply IsS60.alloc | apply IsS60.drewN | apply IsS60.drew | apply IsS60.set_1 | apply IsS60.set_2 | refine IsS60.far ?_ g0_ _) | exact h_)) : q := h a g0_
theorem block_DecodeOp.ups1 {p q r0 r1 : Prop} (a : p) (g0_ : r0) (g1_ : r1) (h : p → r0 → r1 → q := by intro h_ g0_ g1_; repeat (first | (with_reducible first | exact h_ | apply IsS60.alloc | apply IsS60.drewN | apply IsS60.drew | apply IsS60.set_1 | apply IsS60.set_2 | refine IsS60.far ?_ g0_ _ | refine IsS60.far ?_ g1_ _) | exact h_)) : q := h a g0_ g1_
def block_DecodeOp.f (k : Nat) (l0 : List Int) : Option (Int × Int × Int × List Int × List Int × Int × Int) := (block_left_number.f k l0 0 0 1).bind fun bt190 => ((block_left_number.f k l0 bt190.2.1 bt190.2.2 4).bind fun bt193 => ((block_left_number.f k l0 bt193.2.1 bt193.2.2 4).bind fun bt196 => ((block_left_text.f k l0 bt196.2.1 bt196.2.2).bind fun bt200 => ((block_left_text.f k l0 bt200.2.1 bt200.2.2).bind fun bt205 => ((block_Form.f ((bt190.1) % 256) bt193.1 bt196.1 bt200.1 bt205.1).bind fun t210 => ((block_reader_end.f l0 bt205.2.1 bt205.2.2 t210).bind fun bt211 => (if bt211.2.1 = 0 then (some ((bt190.1) % 256, bt193.1, bt196.1, bt200.1, bt205.1, bt211.1, 0)) else (some (0, 0, 0, ([] : List Int), ([] : List Int), 0, bt211.2.1)))))))))
theorem block_DecodeOp.mono : ∀ a0 k, LeO (block_DecodeOp.f k a0) (block_DecodeOp.f (k + 1) a0) := by
  intro a0 k
  unfold block_DecodeOp.f
  repeat' first
      | (with_reducible exact block_left_number.mono _ _ _ _ _)
      | (with_reducible exact block_left_text.mono _ _ _ _)
      | (with_reducible exact LeO.refl _)
      | (with_reducible exact LeO.none _)
      | (with_reducible refine LeO.ite ?_ ?_)
      | (with_reducible refine LeO.bind ?_ (fun _ => ?_))
      | exact block_left_number.mono _ _ _ _ _
      | exact block_left_text.mono _ _ _ _
      | exact LeO.none _
      | refine LeO.ite ?_ ?_
      | refine LeO.bind ?_ (fun _ => ?_)
def block_DecodeOp.T2 : Bool × List (List Nat × List Nat) := (true, [([], []), ([0], [0]), ([1], [1]), ([2], [2]), ([3], [3]), ([], []), ([5], [5]), ([6], [6]), ([7, 3], [7]), ([], []), ([9], [9]), ([10], [10]), ([11, 8], [11]), ([4, 8, 12], [4, 8, 12]), ([], []), ([14, 13, 12, 0, 1, 2, 3, 4, 5, 6, 7, 8, 9, 10, 11, 12, 13, 14], [13, 14])])
def block_DecodeOp.B2 : List Nat := [0, 1, 3, 7, 15, 0, 32, 96, 239, 0, 512, 1536, 4079, 8191, 0, 32767]
theorem block_DecodeOp.tab2 : rtab .any (opsOf Try.f14 2) = block_DecodeOp.T2 := by kernel_rfl
theorem block_DecodeOp.bits2 : waitsOk block_DecodeOp.T2.2 block_DecodeOp.B2 = true := by kernel_rfl
set_option maxHeartbeats 8000000 in
set_option maxRecDepth 100000 in
theorem block_DecodeOp.calls (k : Nat) (A0 : Option Addr) (c0 : Nat) (l0 : List Int) (r1 : Int) (r2 : Int) (r3 : Int) (r4 : List Int) (r5 : List Int) (r6 : Int) (r7 : Int) (w : World) (hr0 : Kd.C (Kd.int .u8) w A0 l0.length l0) (hc0 : l0.length ≤ c0) (h : block_DecodeOp.f k l0 = some (r1, r2, r3, r4, r5, r6, r7)) :
    Calls Try.prog 14 #[.slice A0 l0.length c0] w fun e w' => ∃ v3_ v4_ : Value, e = .returned (.tuple #[.agg #[.int .u8 r1, .int .i64 r2, .int .i64 r3, v3_, v4_], .int .i64 r6, .int .i64 r7]) ∧ Kd.R (Kd.int .u8) 5 w' w.heap.size (fun k_ => some k_ ≠ (v4_ : Value).ownBlock) v3_ r4 ∧ Kd.R (Kd.int .u8) 5 w' w.heap.size (fun k_ => some k_ ≠ (v3_ : Value).ownBlock) v4_ r5 ∧ Below w.heap.size w w' := by
  have hu27 := Try.underlying27
  have hu60 := Try.underlying60
  have hu62 := Try.underlying62
  have HR0 := Aside0.mk hr0
  have HC0 := Aside0.mk hc0
  clear hr0 hc0
  have HB := Aside0.mk (Below.refl w.heap.size w)
  have H : ((block_left_number.f k l0 0 0 1).bind fun bt190 => ((block_left_number.f k l0 bt190.2.1 bt190.2.2 4).bind fun bt193 => ((block_left_number.f k l0 bt193.2.1 bt193.2.2 4).bind fun bt196 => ((block_left_text.f k l0 bt196.2.1 bt196.2.2).bind fun bt200 => ((block_left_text.f k l0 bt200.2.1 bt200.2.2).bind fun bt205 => ((block_Form.f ((bt190.1) % 256) bt193.1 bt196.1 bt200.1 bt205.1).bind fun t210 => ((block_reader_end.f l0 bt205.2.1 bt205.2.2 t210).bind fun bt211 => (if bt211.2.1 = 0 then (some ((bt190.1) % 256, bt193.1, bt196.1, bt200.1, bt205.1, bt211.1, 0)) else (some (0, 0, 0, ([] : List Int), ([] : List Int), 0, bt211.2.1)))))))))) = some (r1, r2, r3, r4, r5, r6, r7) := h
  clear h
  replace H := Option.bind_eq_some_iff.mp H
  obtain ⟨⟨t190, t191, t192⟩, A20, H⟩ := H
  replace H : ((block_left_number.f k l0 t191 t192 4).bind fun bt193 => ((block_left_number.f k l0 bt193.2.1 bt193.2.2 4).bind fun bt196 => ((block_left_text.f k l0 bt196.2.1 bt196.2.2).bind fun bt200 => ((block_left_text.f k l0 bt200.2.1 bt200.2.2).bind fun bt205 => ((block_Form.f ((t190) % 256) bt193.1 bt196.1 bt200.1 bt205.1).bind fun t210 => ((block_reader_end.f l0 bt205.2.1 bt205.2.2 t210).bind fun bt211 => (if bt211.2.1 = 0 then (some ((t190) % 256, bt193.1, bt196.1, bt200.1, bt205.1, bt211.1, 0)) else (some (0, 0, 0, ([] : List Int), ([] : List Int), 0, bt211.2.1))))))))) = some (r1, r2, r3, r4, r5, r6, r7) := H
  have A2 := Aside0.mk A20
  clear A20
  replace H := Option.bind_eq_some_iff.mp H
  obtain ⟨⟨t193, t194, t195⟩, A30, H⟩ := H
  replace H : ((block_left_number.f k l0 t194 t195 4).bind fun bt196 => ((block_left_text.f k l0 bt196.2.1 bt196.2.2).bind fun bt200 => ((block_left_text.f k l0 bt200.2.1 bt200.2.2).bind fun bt205 => ((block_Form.f ((t190) % 256) t193 bt196.1 bt200.1 bt205.1).bind fun t210 => ((block_reader_end.f l0 bt205.2.1 bt205.2.2 t210).bind fun bt211 => (if bt211.2.1 = 0 then (some ((t190) % 256, t193, bt196.1, bt200.1, bt205.1, bt211.1, 0)) else (some (0, 0, 0, ([] : List Int), ([] : List Int), 0, bt211.2.1)))))))) = some (r1, r2, r3, r4, r5, r6, r7) := H
  have A3 := Aside0.mk A30
  clear A30
  replace H := Option.bind_eq_some_iff.mp H
  obtain ⟨⟨t196, t197, t198⟩, A40, H⟩ := H
  replace H : ((block_left_text.f k l0 t197 t198).bind fun bt200 => ((block_left_text.f k l0 bt200.2.1 bt200.2.2).bind fun bt205 => ((block_Form.f ((t190) % 256) t193 t196 bt200.1 bt205.1).bind fun t210 => ((block_reader_end.f l0 bt205.2.1 bt205.2.2 t210).bind fun bt211 => (if bt211.2.1 = 0 then (some ((t190) % 256, t193, t196, bt200.1, bt205.1, bt211.1, 0)) else (some (0, 0, 0, ([] : List Int), ([] : List Int), 0, bt211.2.1))))))) = some (r1, r2, r3, r4, r5, r6, r7) := H
  have A4 := Aside0.mk A40
  clear A40
  replace H := Option.bind_eq_some_iff.mp H
  obtain ⟨⟨t200, t203, t204⟩, A50, H⟩ := H
  replace H : ((block_left_text.f k l0 t203 t204).bind fun bt205 => ((block_Form.f ((t190) % 256) t193 t196 t200 bt205.1).bind fun t210 => ((block_reader_end.f l0 bt205.2.1 bt205.2.2 t210).bind fun bt211 => (if bt211.2.1 = 0 then (some ((t190) % 256, t193, t196, t200, bt205.1, bt211.1, 0)) else (some (0, 0, 0, ([] : List Int), ([] : List Int), 0, bt211.2.1)))))) = some (r1, r2, r3, r4, r5, r6, r7) := H
  have A5 := Aside0.mk A50
  clear A50
  replace H := Option.bind_eq_some_iff.mp H
  obtain ⟨⟨t205, t208, t209⟩, A60, H⟩ := H
  replace H : ((block_Form.f ((t190) % 256) t193 t196 t200 t205).bind fun t210 => ((block_reader_end.f l0 t208 t209 t210).bind fun bt211 => (if bt211.2.1 = 0 then (some ((t190) % 256, t193, t196, t200, t205, bt211.1, 0)) else (some (0, 0, 0, ([] : List Int), ([] : List Int), 0, bt211.2.1))))) = some (r1, r2, r3, r4, r5, r6, r7) := H
  have A6 := Aside0.mk A60
  clear A60
  replace H := Option.bind_eq_some_iff.mp H
  obtain ⟨t210, A70, H⟩ := H
  replace H : ((block_reader_end.f l0 t208 t209 t210).bind fun bt211 => (if bt211.2.1 = 0 then (some ((t190) % 256, t193, t196, t200, t205, bt211.1, 0)) else (some (0, 0, 0, ([] : List Int), ([] : List Int), 0, bt211.2.1)))) = some (r1, r2, r3, r4, r5, r6, r7) := H
  have A7 := Aside0.mk A70
  clear A70
  replace H := Option.bind_eq_some_iff.mp H
  obtain ⟨⟨t211, t212, t213, t214⟩, A80, H⟩ := H
  replace H : (if t212 = 0 then (some ((t190) % 256, t193, t196, t200, t205, t211, 0)) else (some (0, 0, 0, ([] : List Int), ([] : List Int), 0, t212))) = some (r1, r2, r3, r4, r5, r6, r7) := H
  have A8 := Aside0.mk A80
  clear A80
  by_cases c9 : t212 = 0
  · rw [if_pos c9] at H
    have c9b0 : (t212 == 0) = true := beq_iff_eq.mpr c9
    have c9b1 : (t212 != 0) = false := bne_eq_false_iff_eq.mpr c9
    clear c9
    simp only [Option.some.injEq, Prod.mk.injEq] at H
    obtain ⟨rfl, rfl, rfl, rfl, rfl, rfl, rfl⟩ := H
    go_enter Try.func14, Try.ntmps14
    try go_wp2_with (first | ((with_reducible refine gate_dst (N := 2) rfl ?_); refine box_event ?hg (N := 2) ?hd (cs := #[.int .u8 0, .int .i64 0, .int .i64 0, .slice none 0 0, .slice none 0 0]) (t := 27) ?hr ?_; (case hd => rfl); (case hg => rfl); (case hr => first | (go_simp; done) | (go_simp; rfl)); intro gb188 hg w10 hbox hb; have BK188 := Aside0.mk (hbox); have GW188 := Aside0.mk ((by rw [hg]; exact (below_size (upB0 HB.out)) : w.heap.size ≤ gb188)); have GE188 := Aside0.mk ((by rw [hg]; exact (below_size (upB0 HB.out)) : w.heap.size ≤ gb188)); replace HB := Aside0.mk (below_step (upB0 HB.out) hb); clear hb hbox hg) | ((with_reducible refine gate_dst (N := 12) rfl ?_); refine box_event ?hg (N := 12) ?hd (cs := #[.slice A0 l0.length c0, .int .i64 0, .int .i64 0]) (t := 62) ?hr ?_; (case hd => rfl); (case hg => rfl); (case hr => first | (go_simp; done) | (go_simp; rfl)); intro gb189 hg w11 hbox hb; have BK189 := Aside0.mk (hbox); have GW189 := Aside0.mk ((by rw [hg]; exact (below_size (upB1 HB.out GE188.out)) : w.heap.size ≤ gb189)); have GE189 := Aside0.mk ((by rw [hg]; exact (below_size (upB1 HB.out GE188.out)) : w.heap.size ≤ gb189)); replace HB := Aside0.mk (below_step (upB1 HB.out GE188.out) hb); have NB188_189 := Aside0.mk ((by rw [hg]; exact Nat.ne_of_lt (blk_lt (upK BK188.out)) : gb188 ≠ gb189)); have NB189_188 := Aside0.mk ((by rw [hg]; exact Nat.ne_of_gt (blk_lt (upK BK188.out)) : gb189 ≠ gb188)); replace BK188 := Aside0.mk (blk_below (upK BK188.out) hb); clear hb hbox hg; have HI189 := Aside0.mk (show IsS60 w _ gb189 l0 0 0 from ⟨_, _, BK189.out, GE189.out, ⟨HC0.out, HR0.out⟩⟩); clear BK189))
    replace BK188 := Aside0.mk (blk_drew BK188.out)
    replace HI189 := Aside0.mk (IsS60.drew HI189.out)
    replace HB := Aside0.mk (below_drew1 HB.out)
    refine start_ (n := 16) (S := fun w' => True) (ds := []) #[false, false, false, false, false, false, false, false, false, false, false, false, false, false, false, false] (by kernel_rfl) rfl rfl trivial (fun hHeld => ?_); refine with_tabW block_DecodeOp.tab2 block_DecodeOp.bits2 (fun HT_ HW_ => ?_)
    generalize w11.drew = w12 at BK188 HI189 HB hHeld ⊢
    refine pure_ (i := 0) (N := some 13) (v := ?_) (a' := ?_) #[true, false, false, false, false, false, false, false, false, false, false, false, false, false, false, false] rfl rfl (any_of HT_.out (by kernel_rfl)) (fun _ _ _ h => h) (Or.inl ⟨by rfl, ?_⟩) ?_ ?_
    rotate_left
    · intro w'
      go_simp
      with_reducible rfl
    rotate_left
    · simp only [Act.put, List.setIfInBounds_toArray, List.set_cons_zero, List.set_cons_succ, i64_w, i32_w]
      rfl
    refine pure_ (i := 1) (N := some 14) (v := ?_) (a' := ?_) #[true, true, false, false, false, false, false, false, false, false, false, false, false, false, false, false] rfl rfl (any_of HT_.out (by kernel_rfl)) (fun _ _ _ h => h) (Or.inl ⟨by rfl, ?_⟩) ?_ ?_
    rotate_left
    · intro w'
      go_simp
      with_reducible rfl
    rotate_left
    · simp only [Act.put, List.setIfInBounds_toArray, List.set_cons_zero, List.set_cons_succ, i64_w, i32_w]
      rfl
    refine pure_ (i := 2) (N := some 15) (v := ?_) (a' := ?_) #[true, true, true, false, false, false, false, false, false, false, false, false, false, false, false, false] rfl rfl (any_of HT_.out (by kernel_rfl)) (fun _ _ _ h => h) (Or.inl ⟨by rfl, ?_⟩) ?_ ?_
    rotate_left
    · intro w'
      go_simp
      with_reducible rfl
    rotate_left
    · simp only [Act.put, List.setIfInBounds_toArray, List.set_cons_zero, List.set_cons_succ, i64_w, i32_w]
      rfl
    refine pure_ (i := 5) (N := some 18) (v := ?_) (a' := ?_) #[true, true, true, false, false, true, false, false, false, false, false, false, false, false, false, false] rfl rfl (any_of HT_.out (by kernel_rfl)) (fun _ _ _ h => h) (Or.inl ⟨by rfl, ?_⟩) ?_ ?_
    rotate_left
    · intro w'
      go_simp
      with_reducible rfl
    rotate_left
    · simp only [Act.put, List.setIfInBounds_toArray, List.set_cons_zero, List.set_cons_succ, i64_w, i32_w]
      rfl
    refine pure_ (i := 6) (N := some 19) (v := ?_) (a' := ?_) #[true, true, true, false, false, true, true, false, false, false, false, false, false, false, false, false] rfl rfl (any_of HT_.out (by kernel_rfl)) (fun _ _ _ h => h) (Or.inl ⟨by rfl, ?_⟩) ?_ ?_
    rotate_left
    · intro w'
      go_simp
      with_reducible rfl
    rotate_left
    · simp only [Act.put, List.setIfInBounds_toArray, List.set_cons_zero, List.set_cons_succ, i64_w, i32_w]
      rfl
    refine pure_ (i := 7) (N := some 20) (v := ?_) (a' := ?_) #[true, true, true, false, false, true, true, true, false, false, false, false, false, false, false, false] rfl rfl (any_of HT_.out (by kernel_rfl)) (fun _ _ _ h => h) (Or.inl ⟨by rfl, ?_⟩) ?_ ?_
    rotate_left
    · intro w'
      go_simp
      with_reducible rfl
    rotate_left
    · simp only [Act.put, List.setIfInBounds_toArray, List.set_cons_zero, List.set_cons_succ, i64_w, i32_w]
      rfl
    refine pure_ (i := 9) (N := some 22) (v := ?_) (a' := ?_) #[true, true, true, false, false, true, true, true, false, true, false, false, false, false, false, false] rfl rfl (any_of HT_.out (by kernel_rfl)) (fun _ _ _ h => h) (Or.inl ⟨by rfl, ?_⟩) ?_ ?_
    rotate_left
    · intro w'
      go_simp
      with_reducible rfl
    rotate_left
    · simp only [Act.put, List.setIfInBounds_toArray, List.set_cons_zero, List.set_cons_succ, i64_w, i32_w]
      rfl
    refine pure_ (i := 10) (N := some 23) (v := ?_) (a' := ?_) #[true, true, true, false, false, true, true, true, false, true, true, false, false, false, false, false] rfl rfl (any_of HT_.out (by kernel_rfl)) (fun _ _ _ h => h) (Or.inl ⟨by rfl, ?_⟩) ?_ ?_
    rotate_left
    · intro w'
      go_simp
      with_reducible rfl
    rotate_left
    · simp only [Act.put, List.setIfInBounds_toArray, List.set_cons_zero, List.set_cons_succ, i64_w, i32_w]
      rfl
    refine pure_ (i := 11) (N := some 24) (v := ?_) (a' := ?_) #[true, true, true, false, false, true, true, true, false, true, true, true, false, false, false, false] rfl rfl (any_of HT_.out (by kernel_rfl)) (fun _ _ _ h => h) (Or.inl ⟨by rfl, ?_⟩) ?_ ?_
    rotate_left
    · intro w'
      go_simp
      with_reducible rfl
    rotate_left
    · simp only [Act.put, List.setIfInBounds_toArray, List.set_cons_zero, List.set_cons_succ, i64_w, i32_w]
      rfl
    refine join_ (σ := Nat) 1 #[true, true, true, true, true, true, true, true, true, true, true, true, true, true, true, false] (fun s_ => [(16, .int .i64 t190), (21, .int .i64 t193), (25, .int .i64 t196), (6, .pointer (some ⟨s_, 0, none⟩)), (17, .int .u8 ((t190) % 256)), (26, .agg #[.int .u8 ((t190) % 256), .int .i64 t193, .int .i64 t196, .slice none 0 0, .slice none 0 0])]) (fun s_ w' => (w'.heap[gb188]? = some (.cells #[.int .u8 0, .int .i64 0, .int .i64 0, .slice none 0 0, .slice none 0 0] 27 (0, 0))) ∧ (w'.heap[s_]? = some (.cells #[.int .u8 0, .int .i64 0, .int .i64 0, .slice none 0 0, .slice none 0 0] 27 (0, 0))) ∧ (w.heap.size ≤ s_) ∧ (w.heap.size ≤ s_) ∧ (gb189 ≠ s_) ∧ (s_ ≠ gb189) ∧ (gb188 ≠ s_) ∧ (s_ ≠ gb188) ∧ (IsS60 w w' gb189 l0 t197 t198) ∧ (Below w.heap.size w w')) ?_ ?_
    rotate_left
    · intro hCont
      refine two_ (i := 3) (j := 14) (Ni := some 16) (Nj := some 6) #[true, true, true, true, false, true, true, true, false, true, true, true, false, false, false, false] #[true, true, true, false, false, true, true, true, false, true, true, true, false, false, true, false] rfl rfl rfl rfl (two_of HT_.out (by kernel_rfl)) (by decide) (by decide) (fun K hK => ?_) (fun K hK => ?_)
      · skip
        refine goes_ Try.func35 (by kernel_rfl) rfl #[.pointer (some ⟨gb189, 0, none⟩), .int .i64 1] (by rfl) rfl rfl argA ?_
        with_reducible refine (block_left_number.calls k gb189 l0 0 0 1 t190 t191 t192 w _ ?side1 ?side2 A2.out).mono ?_
        (case side1 => exact block_DecodeOp.ups0 HI189.out NB189_188.out)
        (case side2 => exact upB2 HB.out (IsS60.ge HI189.out) GE188.out)
        rintro e w13 ⟨rfl, hi, hb, hk⟩
        refine ⟨_, rfl, ?_⟩
        replace BK188 := Aside0.mk (KeepBut.blk hk (upK BK188.out) NB188_189.out (by simp))
        replace HB := Aside0.mk (hb)
        replace HI189 := Aside0.mk (hi)
        (try clear hb)
        (try clear hb2)
        (try clear hk)
        (try clear hi)
        refine hK.out _ _ trivial (fun hHeld => ?_)
        clear hK K
        refine norm_ (a' := ?_) ?_ ?_
        rotate_left
        · show Act.put _ (some 16) _ = _
          simp only [Act.put, List.setIfInBounds_toArray, List.set_cons_zero, List.set_cons_succ, i64_w, i32_w]
          rfl
        refine pure_ (i := 4) (N := some 17) (v := ?_) (a' := ?_) #[true, true, true, true, true, true, true, true, false, true, true, true, false, false, false, false] rfl rfl (any_of HT_.out (by kernel_rfl)) (fun _ _ _ h => h) (Or.inl ⟨by rfl, ?_⟩) ?_ ?_
        rotate_left
        · intro w'
          go_simp
          with_reducible rfl
        rotate_left
        · simp only [Act.put, List.setIfInBounds_toArray, List.set_cons_zero, List.set_cons_succ, i64_w, i32_w]
          rfl
        refine two_ (i := 8) (j := 14) (Ni := some 21) (Nj := some 6) #[true, true, true, true, true, true, true, true, true, true, true, true, false, false, false, false] #[true, true, true, true, true, true, true, true, false, true, true, true, false, false, true, false] rfl rfl rfl rfl (two_of HT_.out (by kernel_rfl)) (by decide) (by decide) (fun K hK => ?_) (fun K hK => ?_)
        · skip
          refine goes_ Try.func35 (by kernel_rfl) rfl #[.pointer (some ⟨gb189, 0, none⟩), .int .i64 4] (by rfl) rfl rfl argA ?_
          with_reducible refine (block_left_number.calls k gb189 l0 t191 t192 4 t193 t194 t195 w _ ?side1 ?side2 A3.out).mono ?_
          (case side1 => exact block_DecodeOp.ups0 HI189.out NB189_188.out)
          (case side2 => exact upB2 HB.out (IsS60.ge HI189.out) GE188.out)
          rintro e w14 ⟨rfl, hi, hb, hk⟩
          refine ⟨_, rfl, ?_⟩
          replace BK188 := Aside0.mk (KeepBut.blk hk (upK BK188.out) NB188_189.out (by simp))
          replace HB := Aside0.mk (hb)
          replace HI189 := Aside0.mk (hi)
          (try clear hb)
          (try clear hb2)
          (try clear hk)
          (try clear hi)
          refine hK.out _ _ trivial (fun hHeld => ?_)
          clear hK K
          refine norm_ (a' := ?_) ?_ ?_
          rotate_left
          · show Act.put _ (some 21) _ = _
            simp only [Act.put, List.setIfInBounds_toArray, List.set_cons_zero, List.set_cons_succ, i64_w, i32_w]
            rfl
          refine two_ (i := 12) (j := 14) (Ni := some 25) (Nj := some 6) #[true, true, true, true, true, true, true, true, true, true, true, true, true, false, false, false] #[true, true, true, true, true, true, true, true, true, true, true, true, false, false, true, false] rfl rfl rfl rfl (two_of HT_.out (by kernel_rfl)) (by decide) (by decide) (fun K hK => ?_) (fun K hK => ?_)
          · skip
            refine goes_ Try.func35 (by kernel_rfl) rfl #[.pointer (some ⟨gb189, 0, none⟩), .int .i64 4] (by rfl) rfl rfl argA ?_
            with_reducible refine (block_left_number.calls k gb189 l0 t194 t195 4 t196 t197 t198 w _ ?side1 ?side2 A4.out).mono ?_
            (case side1 => exact block_DecodeOp.ups0 HI189.out NB189_188.out)
            (case side2 => exact upB2 HB.out (IsS60.ge HI189.out) GE188.out)
            rintro e w15 ⟨rfl, hi, hb, hk⟩
            refine ⟨_, rfl, ?_⟩
            replace BK188 := Aside0.mk (KeepBut.blk hk (upK BK188.out) NB188_189.out (by simp))
            replace HB := Aside0.mk (hb)
            replace HI189 := Aside0.mk (hi)
            (try clear hb)
            (try clear hb2)
            (try clear hk)
            (try clear hi)
            refine hK.out _ _ trivial (fun hHeld => ?_)
            clear hK K
            refine norm_ (a' := ?_) ?_ ?_
            rotate_left
            · show Act.put _ (some 25) _ = _
              simp only [Act.put, List.setIfInBounds_toArray, List.set_cons_zero, List.set_cons_succ, i64_w, i32_w]
              rfl
            refine pure_ (i := 13) (N := some 26) (v := ?_) (a' := ?_) #[true, true, true, true, true, true, true, true, true, true, true, true, true, true, false, false] rfl rfl (any_of HT_.out (by kernel_rfl)) (fun _ _ _ h => h) (Or.inl ⟨by rfl, ?_⟩) ?_ ?_
            rotate_left
            · intro w'
              go_simp
              with_reducible rfl
            rotate_left
            · simp only [Act.put, List.setIfInBounds_toArray, List.set_cons_zero, List.set_cons_succ, i64_w, i32_w]
              rfl
            refine one_ (i := 14) (N := some 6) #[true, true, true, true, true, true, true, true, true, true, true, true, true, true, true, false] rfl rfl (one_of HT_.out (by kernel_rfl)) (by decide) (fun K hK => ?_)
            refine box_step ?hg (N := 6) ?hd (cs := #[.int .u8 0, .int .i64 0, .int .i64 0, .slice none 0 0, .slice none 0 0]) (t := 27) ?hr ?_; (case hd => rfl); (case hg => rfl); (case hr => first | (go_simp; done) | (go_simp; rfl))
            intro gb199 hg w16 hbox hb
            have BK199 := Aside0.mk (hbox)
            have GW199 := Aside0.mk ((by rw [hg]; exact (below_size (upB2 HB.out (IsS60.ge HI189.out) GE188.out)) : w.heap.size ≤ gb199))
            have GE199 := Aside0.mk ((by rw [hg]; exact (below_size (upB2 HB.out (IsS60.ge HI189.out) GE188.out)) : w.heap.size ≤ gb199))
            replace HB := Aside0.mk (below_step (upB2 HB.out (IsS60.ge HI189.out) GE188.out) hb)
            have NB188_199 := Aside0.mk ((by rw [hg]; exact Nat.ne_of_lt (blk_lt (upK BK188.out)) : gb188 ≠ gb199))
            have NB199_188 := Aside0.mk ((by rw [hg]; exact Nat.ne_of_gt (blk_lt (upK BK188.out)) : gb199 ≠ gb188))
            replace BK188 := Aside0.mk (blk_below (upK BK188.out) hb)
            have NB189_199 := Aside0.mk ((by rw [hg]; exact Nat.ne_of_lt (IsS60.lt (show IsS60 w _ gb189 l0 t197 t198 from block_DecodeOp.ups0 HI189.out NB189_188.out)) : gb189 ≠ gb199))
            have NB199_189 := Aside0.mk ((by rw [hg]; exact Nat.ne_of_gt (IsS60.lt (show IsS60 w _ gb189 l0 t197 t198 from block_DecodeOp.ups0 HI189.out NB189_188.out)) : gb199 ≠ gb189))
            replace HI189 := Aside0.mk (IsS60.below (block_DecodeOp.ups0 HI189.out NB189_188.out) hb)
            clear hb hbox hg
            refine hK.out _ _ trivial (fun hHeld => ?_)
            clear hK K
            refine norm_ (a' := ?_) ?_ ?_
            rotate_left
            · show Act.put _ (some 6) _ = _
              simp only [Act.put, List.setIfInBounds_toArray, List.set_cons_zero, List.set_cons_succ, i64_w, i32_w]
              rfl
            exact norm_ (by first | (simp only [putAll, Act.put, List.setIfInBounds_toArray, List.set_cons_zero, List.set_cons_succ]; done) | simp only [IntKind.wrap_u8, IntKind.wrap_u16, IntKind.wrap_u32, putAll, Act.put, List.setIfInBounds_toArray, List.set_cons_zero, List.set_cons_succ]) (hCont (gb199) _ ⟨(upK BK188.out), (upK BK199.out), GW199.out, GE199.out, NB189_199.out, NB199_189.out, NB188_199.out, NB199_188.out, (block_DecodeOp.ups1 HI189.out NB189_188.out NB189_199.out), (upB3 HB.out (IsS60.ge HI189.out) GE188.out GE199.out)⟩)
          · skip
            refine box_step ?hg (N := 6) ?hd (cs := #[.int .u8 0, .int .i64 0, .int .i64 0, .slice none 0 0, .slice none 0 0]) (t := 27) ?hr ?_; (case hd => rfl); (case hg => rfl); (case hr => first | (go_simp; done) | (go_simp; rfl))
            intro gb199 hg w15 hbox hb
            have BK199 := Aside0.mk (hbox)
            have GW199 := Aside0.mk ((by rw [hg]; exact (below_size (upB2 HB.out (IsS60.ge HI189.out) GE188.out)) : w.heap.size ≤ gb199))
            have GE199 := Aside0.mk ((by rw [hg]; exact (below_size (upB2 HB.out (IsS60.ge HI189.out) GE188.out)) : w.heap.size ≤ gb199))
            replace HB := Aside0.mk (below_step (upB2 HB.out (IsS60.ge HI189.out) GE188.out) hb)
            have NB188_199 := Aside0.mk ((by rw [hg]; exact Nat.ne_of_lt (blk_lt (upK BK188.out)) : gb188 ≠ gb199))
            have NB199_188 := Aside0.mk ((by rw [hg]; exact Nat.ne_of_gt (blk_lt (upK BK188.out)) : gb199 ≠ gb188))
            replace BK188 := Aside0.mk (blk_below (upK BK188.out) hb)
            have NB189_199 := Aside0.mk ((by rw [hg]; exact Nat.ne_of_lt (IsS60.lt (show IsS60 w _ gb189 l0 t194 t195 from block_DecodeOp.ups0 HI189.out NB189_188.out)) : gb189 ≠ gb199))
            have NB199_189 := Aside0.mk ((by rw [hg]; exact Nat.ne_of_gt (IsS60.lt (show IsS60 w _ gb189 l0 t194 t195 from block_DecodeOp.ups0 HI189.out NB189_188.out)) : gb199 ≠ gb189))
            replace HI189 := Aside0.mk (IsS60.below (block_DecodeOp.ups0 HI189.out NB189_188.out) hb)
            clear hb hbox hg
            refine hK.out _ _ trivial (fun hHeld => ?_)
            clear hK K
            refine norm_ (a' := ?_) ?_ ?_
            rotate_left
            · show Act.put _ (some 6) _ = _
              simp only [Act.put, List.setIfInBounds_toArray, List.set_cons_zero, List.set_cons_succ, i64_w, i32_w]
              rfl
            refine one_ (i := 12) (N := some 25) #[true, true, true, true, true, true, true, true, true, true, true, true, true, false, true, false] rfl rfl (one_of HT_.out (by kernel_rfl)) (by decide) (fun K hK => ?_)
            refine goes_ Try.func35 (by kernel_rfl) rfl #[.pointer (some ⟨gb189, 0, none⟩), .int .i64 4] (by rfl) rfl rfl argA ?_
            with_reducible refine (block_left_number.calls k gb189 l0 t194 t195 4 t196 t197 t198 w _ ?side1 ?side2 A4.out).mono ?_
            (case side1 => exact block_DecodeOp.ups1 HI189.out NB189_188.out NB189_199.out)
            (case side2 => exact upB3 HB.out (IsS60.ge HI189.out) GE188.out GE199.out)
            rintro e w16 ⟨rfl, hi, hb, hk⟩
            refine ⟨_, rfl, ?_⟩
            replace BK188 := Aside0.mk (KeepBut.blk hk (upK BK188.out) NB188_189.out (by simp))
            replace BK199 := Aside0.mk (KeepBut.blk hk (upK BK199.out) NB199_189.out (by simp))
            replace HB := Aside0.mk (hb)
            replace HI189 := Aside0.mk (hi)
            (try clear hb)
            (try clear hb2)
            (try clear hk)
            (try clear hi)
            refine hK.out _ _ trivial (fun hHeld => ?_)
            clear hK K
            refine norm_ (a' := ?_) ?_ ?_
            rotate_left
            · show Act.put _ (some 25) _ = _
              simp only [Act.put, List.setIfInBounds_toArray, List.set_cons_zero, List.set_cons_succ, i64_w, i32_w]
              rfl
            refine pure_ (i := 13) (N := some 26) (v := ?_) (a' := ?_) #[true, true, true, true, true, true, true, true, true, true, true, true, true, true, true, false] rfl rfl (any_of HT_.out (by kernel_rfl)) (fun _ _ _ h => h) (Or.inl ⟨by rfl, ?_⟩) ?_ ?_
            rotate_left
            · intro w'
              go_simp
              with_reducible rfl
            rotate_left
            · simp only [Act.put, List.setIfInBounds_toArray, List.set_cons_zero, List.set_cons_succ, i64_w, i32_w]
              rfl
            exact norm_ (by first | (simp only [putAll, Act.put, List.setIfInBounds_toArray, List.set_cons_zero, List.set_cons_succ]; done) | simp only [IntKind.wrap_u8, IntKind.wrap_u16, IntKind.wrap_u32, putAll, Act.put, List.setIfInBounds_toArray, List.set_cons_zero, List.set_cons_succ]) (hCont (gb199) _ ⟨(upK BK188.out), (upK BK199.out), GW199.out, GE199.out, NB189_199.out, NB199_189.out, NB188_199.out, NB199_188.out, (block_DecodeOp.ups1 HI189.out NB189_188.out NB189_199.out), (upB3 HB.out (IsS60.ge HI189.out) GE188.out GE199.out)⟩)
        · skip
          refine box_step ?hg (N := 6) ?hd (cs := #[.int .u8 0, .int .i64 0, .int .i64 0, .slice none 0 0, .slice none 0 0]) (t := 27) ?hr ?_; (case hd => rfl); (case hg => rfl); (case hr => first | (go_simp; done) | (go_simp; rfl))
          intro gb199 hg w14 hbox hb
          have BK199 := Aside0.mk (hbox)
          have GW199 := Aside0.mk ((by rw [hg]; exact (below_size (upB2 HB.out (IsS60.ge HI189.out) GE188.out)) : w.heap.size ≤ gb199))
          have GE199 := Aside0.mk ((by rw [hg]; exact (below_size (upB2 HB.out (IsS60.ge HI189.out) GE188.out)) : w.heap.size ≤ gb199))
          replace HB := Aside0.mk (below_step (upB2 HB.out (IsS60.ge HI189.out) GE188.out) hb)
          have NB188_199 := Aside0.mk ((by rw [hg]; exact Nat.ne_of_lt (blk_lt (upK BK188.out)) : gb188 ≠ gb199))
          have NB199_188 := Aside0.mk ((by rw [hg]; exact Nat.ne_of_gt (blk_lt (upK BK188.out)) : gb199 ≠ gb188))
          replace BK188 := Aside0.mk (blk_below (upK BK188.out) hb)
          have NB189_199 := Aside0.mk ((by rw [hg]; exact Nat.ne_of_lt (IsS60.lt (show IsS60 w _ gb189 l0 t191 t192 from block_DecodeOp.ups0 HI189.out NB189_188.out)) : gb189 ≠ gb199))
          have NB199_189 := Aside0.mk ((by rw [hg]; exact Nat.ne_of_gt (IsS60.lt (show IsS60 w _ gb189 l0 t191 t192 from block_DecodeOp.ups0 HI189.out NB189_188.out)) : gb199 ≠ gb189))
          replace HI189 := Aside0.mk (IsS60.below (block_DecodeOp.ups0 HI189.out NB189_188.out) hb)
          clear hb hbox hg
          refine hK.out _ _ trivial (fun hHeld => ?_)
          clear hK K
          refine norm_ (a' := ?_) ?_ ?_
          rotate_left
          · show Act.put _ (some 6) _ = _
            simp only [Act.put, List.setIfInBounds_toArray, List.set_cons_zero, List.set_cons_succ, i64_w, i32_w]
            rfl
          refine one_ (i := 8) (N := some 21) #[true, true, true, true, true, true, true, true, true, true, true, true, false, false, true, false] rfl rfl (one_of HT_.out (by kernel_rfl)) (by decide) (fun K hK => ?_)
          refine goes_ Try.func35 (by kernel_rfl) rfl #[.pointer (some ⟨gb189, 0, none⟩), .int .i64 4] (by rfl) rfl rfl argA ?_
          with_reducible refine (block_left_number.calls k gb189 l0 t191 t192 4 t193 t194 t195 w _ ?side1 ?side2 A3.out).mono ?_
          (case side1 => exact block_DecodeOp.ups1 HI189.out NB189_188.out NB189_199.out)
          (case side2 => exact upB3 HB.out (IsS60.ge HI189.out) GE188.out GE199.out)
          rintro e w15 ⟨rfl, hi, hb, hk⟩
          refine ⟨_, rfl, ?_⟩
          replace BK188 := Aside0.mk (KeepBut.blk hk (upK BK188.out) NB188_189.out (by simp))
          replace BK199 := Aside0.mk (KeepBut.blk hk (upK BK199.out) NB199_189.out (by simp))
          replace HB := Aside0.mk (hb)
          replace HI189 := Aside0.mk (hi)
          (try clear hb)
          (try clear hb2)
          (try clear hk)
          (try clear hi)
          refine hK.out _ _ trivial (fun hHeld => ?_)
          clear hK K
          refine norm_ (a' := ?_) ?_ ?_
          rotate_left
          · show Act.put _ (some 21) _ = _
            simp only [Act.put, List.setIfInBounds_toArray, List.set_cons_zero, List.set_cons_succ, i64_w, i32_w]
            rfl
          refine one_ (i := 12) (N := some 25) #[true, true, true, true, true, true, true, true, true, true, true, true, true, false, true, false] rfl rfl (one_of HT_.out (by kernel_rfl)) (by decide) (fun K hK => ?_)
          refine goes_ Try.func35 (by kernel_rfl) rfl #[.pointer (some ⟨gb189, 0, none⟩), .int .i64 4] (by rfl) rfl rfl argA ?_
          with_reducible refine (block_left_number.calls k gb189 l0 t194 t195 4 t196 t197 t198 w _ ?side1 ?side2 A4.out).mono ?_
          (case side1 => exact block_DecodeOp.ups1 HI189.out NB189_188.out NB189_199.out)
          (case side2 => exact upB3 HB.out (IsS60.ge HI189.out) GE188.out GE199.out)
          rintro e w16 ⟨rfl, hi, hb, hk⟩
          refine ⟨_, rfl, ?_⟩
          replace BK188 := Aside0.mk (KeepBut.blk hk (upK BK188.out) NB188_189.out (by simp))
          replace BK199 := Aside0.mk (KeepBut.blk hk (upK BK199.out) NB199_189.out (by simp))
          replace HB := Aside0.mk (hb)
          replace HI189 := Aside0.mk (hi)
          (try clear hb)
          (try clear hb2)
          (try clear hk)
          (try clear hi)
          refine hK.out _ _ trivial (fun hHeld => ?_)
          clear hK K
          refine norm_ (a' := ?_) ?_ ?_
          rotate_left
          · show Act.put _ (some 25) _ = _
            simp only [Act.put, List.setIfInBounds_toArray, List.set_cons_zero, List.set_cons_succ, i64_w, i32_w]
            rfl
          refine pure_ (i := 13) (N := some 26) (v := ?_) (a' := ?_) #[true, true, true, true, true, true, true, true, true, true, true, true, true, true, true, false] rfl rfl (any_of HT_.out (by kernel_rfl)) (fun _ _ _ h => h) (Or.inl ⟨by rfl, ?_⟩) ?_ ?_
          rotate_left
          · intro w'
            go_simp
            with_reducible rfl
          rotate_left
          · simp only [Act.put, List.setIfInBounds_toArray, List.set_cons_zero, List.set_cons_succ, i64_w, i32_w]
            rfl
          exact norm_ (by first | (simp only [putAll, Act.put, List.setIfInBounds_toArray, List.set_cons_zero, List.set_cons_succ]; done) | simp only [IntKind.wrap_u8, IntKind.wrap_u16, IntKind.wrap_u32, putAll, Act.put, List.setIfInBounds_toArray, List.set_cons_zero, List.set_cons_succ]) (hCont (gb199) _ ⟨(upK BK188.out), (upK BK199.out), GW199.out, GE199.out, NB189_199.out, NB199_189.out, NB188_199.out, NB199_188.out, (block_DecodeOp.ups1 HI189.out NB189_188.out NB189_199.out), (upB3 HB.out (IsS60.ge HI189.out) GE188.out GE199.out)⟩)
      · skip
        refine box_step ?hg (N := 6) ?hd (cs := #[.int .u8 0, .int .i64 0, .int .i64 0, .slice none 0 0, .slice none 0 0]) (t := 27) ?hr ?_; (case hd => rfl); (case hg => rfl); (case hr => first | (go_simp; done) | (go_simp; rfl))
        intro gb199 hg w13 hbox hb
        have BK199 := Aside0.mk (hbox)
        have GW199 := Aside0.mk ((by rw [hg]; exact (below_size (upB2 HB.out (IsS60.ge HI189.out) GE188.out)) : w.heap.size ≤ gb199))
        have GE199 := Aside0.mk ((by rw [hg]; exact (below_size (upB2 HB.out (IsS60.ge HI189.out) GE188.out)) : w.heap.size ≤ gb199))
        replace HB := Aside0.mk (below_step (upB2 HB.out (IsS60.ge HI189.out) GE188.out) hb)
        have NB188_199 := Aside0.mk ((by rw [hg]; exact Nat.ne_of_lt (blk_lt (upK BK188.out)) : gb188 ≠ gb199))
        have NB199_188 := Aside0.mk ((by rw [hg]; exact Nat.ne_of_gt (blk_lt (upK BK188.out)) : gb199 ≠ gb188))
        replace BK188 := Aside0.mk (blk_below (upK BK188.out) hb)
        have NB189_199 := Aside0.mk ((by rw [hg]; exact Nat.ne_of_lt (IsS60.lt (show IsS60 w _ gb189 l0 0 0 from block_DecodeOp.ups0 HI189.out NB189_188.out)) : gb189 ≠ gb199))
        have NB199_189 := Aside0.mk ((by rw [hg]; exact Nat.ne_of_gt (IsS60.lt (show IsS60 w _ gb189 l0 0 0 from block_DecodeOp.ups0 HI189.out NB189_188.out)) : gb199 ≠ gb189))
        replace HI189 := Aside0.mk (IsS60.below (block_DecodeOp.ups0 HI189.out NB189_188.out) hb)
        clear hb hbox hg
        refine hK.out _ _ trivial (fun hHeld => ?_)
        clear hK K
        refine norm_ (a' := ?_) ?_ ?_
        rotate_left
        · show Act.put _ (some 6) _ = _
          simp only [Act.put, List.setIfInBounds_toArray, List.set_cons_zero, List.set_cons_succ, i64_w, i32_w]
          rfl
        refine one_ (i := 3) (N := some 16) #[true, true, true, true, false, true, true, true, false, true, true, true, false, false, true, false] rfl rfl (one_of HT_.out (by kernel_rfl)) (by decide) (fun K hK => ?_)
        refine goes_ Try.func35 (by kernel_rfl) rfl #[.pointer (some ⟨gb189, 0, none⟩), .int .i64 1] (by rfl) rfl rfl argA ?_
        with_reducible refine (block_left_number.calls k gb189 l0 0 0 1 t190 t191 t192 w _ ?side1 ?side2 A2.out).mono ?_
        (case side1 => exact block_DecodeOp.ups1 HI189.out NB189_188.out NB189_199.out)
        (case side2 => exact upB3 HB.out (IsS60.ge HI189.out) GE188.out GE199.out)
        rintro e w14 ⟨rfl, hi, hb, hk⟩
        refine ⟨_, rfl, ?_⟩
        replace BK188 := Aside0.mk (KeepBut.blk hk (upK BK188.out) NB188_189.out (by simp))
        replace BK199 := Aside0.mk (KeepBut.blk hk (upK BK199.out) NB199_189.out (by simp))
        replace HB := Aside0.mk (hb)
        replace HI189 := Aside0.mk (hi)
        (try clear hb)
        (try clear hb2)
        (try clear hk)
        (try clear hi)
        refine hK.out _ _ trivial (fun hHeld => ?_)
        clear hK K
        refine norm_ (a' := ?_) ?_ ?_
        rotate_left
        · show Act.put _ (some 16) _ = _
          simp only [Act.put, List.setIfInBounds_toArray, List.set_cons_zero, List.set_cons_succ, i64_w, i32_w]
          rfl
        refine pure_ (i := 4) (N := some 17) (v := ?_) (a' := ?_) #[true, true, true, true, true, true, true, true, false, true, true, true, false, false, true, false] rfl rfl (any_of HT_.out (by kernel_rfl)) (fun _ _ _ h => h) (Or.inl ⟨by rfl, ?_⟩) ?_ ?_
        rotate_left
        · intro w'
          go_simp
          with_reducible rfl
        rotate_left
        · simp only [Act.put, List.setIfInBounds_toArray, List.set_cons_zero, List.set_cons_succ, i64_w, i32_w]
          rfl
        refine one_ (i := 8) (N := some 21) #[true, true, true, true, true, true, true, true, true, true, true, true, false, false, true, false] rfl rfl (one_of HT_.out (by kernel_rfl)) (by decide) (fun K hK => ?_)
        refine goes_ Try.func35 (by kernel_rfl) rfl #[.pointer (some ⟨gb189, 0, none⟩), .int .i64 4] (by rfl) rfl rfl argA ?_
        with_reducible refine (block_left_number.calls k gb189 l0 t191 t192 4 t193 t194 t195 w _ ?side1 ?side2 A3.out).mono ?_
        (case side1 => exact block_DecodeOp.ups1 HI189.out NB189_188.out NB189_199.out)
        (case side2 => exact upB3 HB.out (IsS60.ge HI189.out) GE188.out GE199.out)
        rintro e w15 ⟨rfl, hi, hb, hk⟩
        refine ⟨_, rfl, ?_⟩
        replace BK188 := Aside0.mk (KeepBut.blk hk (upK BK188.out) NB188_189.out (by simp))
        replace BK199 := Aside0.mk (KeepBut.blk hk (upK BK199.out) NB199_189.out (by simp))
        replace HB := Aside0.mk (hb)
        replace HI189 := Aside0.mk (hi)
        (try clear hb)
        (try clear hb2)
        (try clear hk)
        (try clear hi)
        refine hK.out _ _ trivial (fun hHeld => ?_)
        clear hK K
        refine norm_ (a' := ?_) ?_ ?_
        rotate_left
        · show Act.put _ (some 21) _ = _
          simp only [Act.put, List.setIfInBounds_toArray, List.set_cons_zero, List.set_cons_succ, i64_w, i32_w]
          rfl
        refine one_ (i := 12) (N := some 25) #[true, true, true, true, true, true, true, true, true, true, true, true, true, false, true, false] rfl rfl (one_of HT_.out (by kernel_rfl)) (by decide) (fun K hK => ?_)
        refine goes_ Try.func35 (by kernel_rfl) rfl #[.pointer (some ⟨gb189, 0, none⟩), .int .i64 4] (by rfl) rfl rfl argA ?_
        with_reducible refine (block_left_number.calls k gb189 l0 t194 t195 4 t196 t197 t198 w _ ?side1 ?side2 A4.out).mono ?_
        (case side1 => exact block_DecodeOp.ups1 HI189.out NB189_188.out NB189_199.out)
        (case side2 => exact upB3 HB.out (IsS60.ge HI189.out) GE188.out GE199.out)
        rintro e w16 ⟨rfl, hi, hb, hk⟩
        refine ⟨_, rfl, ?_⟩
        replace BK188 := Aside0.mk (KeepBut.blk hk (upK BK188.out) NB188_189.out (by simp))
        replace BK199 := Aside0.mk (KeepBut.blk hk (upK BK199.out) NB199_189.out (by simp))
        replace HB := Aside0.mk (hb)
        replace HI189 := Aside0.mk (hi)
        (try clear hb)
        (try clear hb2)
        (try clear hk)
        (try clear hi)
        refine hK.out _ _ trivial (fun hHeld => ?_)
        clear hK K
        refine norm_ (a' := ?_) ?_ ?_
        rotate_left
        · show Act.put _ (some 25) _ = _
          simp only [Act.put, List.setIfInBounds_toArray, List.set_cons_zero, List.set_cons_succ, i64_w, i32_w]
          rfl
        refine pure_ (i := 13) (N := some 26) (v := ?_) (a' := ?_) #[true, true, true, true, true, true, true, true, true, true, true, true, true, true, true, false] rfl rfl (any_of HT_.out (by kernel_rfl)) (fun _ _ _ h => h) (Or.inl ⟨by rfl, ?_⟩) ?_ ?_
        rotate_left
        · intro w'
          go_simp
          with_reducible rfl
        rotate_left
        · simp only [Act.put, List.setIfInBounds_toArray, List.set_cons_zero, List.set_cons_succ, i64_w, i32_w]
          rfl
        exact norm_ (by first | (simp only [putAll, Act.put, List.setIfInBounds_toArray, List.set_cons_zero, List.set_cons_succ]; done) | simp only [IntKind.wrap_u8, IntKind.wrap_u16, IntKind.wrap_u32, putAll, Act.put, List.setIfInBounds_toArray, List.set_cons_zero, List.set_cons_succ]) (hCont (gb199) _ ⟨(upK BK188.out), (upK BK199.out), GW199.out, GE199.out, NB189_199.out, NB199_189.out, NB188_199.out, NB199_188.out, (block_DecodeOp.ups1 HI189.out NB189_188.out NB189_199.out), (upB3 HB.out (IsS60.ge HI189.out) GE188.out GE199.out)⟩)
    rintro gb199 w17 ⟨h0_, h1_, h2_, h3_, h4_, h5_, h6_, h7_, h8_, h9_⟩
    have n0_ : Aside0 (w17.heap[gb188]? = some (.cells #[.int .u8 0, .int .i64 0, .int .i64 0, .slice none 0 0, .slice none 0 0] 27 (0, 0))) := ⟨h0_⟩
    have n1_ : Aside0 (w17.heap[gb199]? = some (.cells #[.int .u8 0, .int .i64 0, .int .i64 0, .slice none 0 0, .slice none 0 0] 27 (0, 0))) := ⟨h1_⟩
    have n2_ : Aside0 (w.heap.size ≤ gb199) := ⟨h2_⟩
    have n3_ : Aside0 (w.heap.size ≤ gb199) := ⟨h3_⟩
    have n4_ : Aside0 (gb189 ≠ gb199) := ⟨h4_⟩
    have n5_ : Aside0 (gb199 ≠ gb189) := ⟨h5_⟩
    have n6_ : Aside0 (gb188 ≠ gb199) := ⟨h6_⟩
    have n7_ : Aside0 (gb199 ≠ gb188) := ⟨h7_⟩
    have n8_ : Aside0 (IsS60 w w17 gb189 l0 t197 t198) := ⟨h8_⟩
    have n9_ : Aside0 (Below w.heap.size w w17) := ⟨h9_⟩
    clear BK188
    clear HI189
    clear HB
    clear h0_ h1_ h2_ h3_ h4_ h5_ h6_ h7_ h8_ h9_
    have BK188 := n0_
    have BK199 := n1_
    have GW199 := n2_
    have GE199 := n3_
    have NB189_199 := n4_
    have NB199_189 := n5_
    have NB188_199 := n6_
    have NB199_188 := n7_
    have HI189 := n8_
    have HB := n9_
    clear n0_ n1_ n2_ n3_ n4_ n5_ n6_ n7_ n8_ n9_
    have hHeld := trivial
    refine norm_ (a' := ?_) ?_ ?_
    rotate_left
    · simp only [putAll, Act.put, List.setIfInBounds_toArray, List.set_cons_zero, List.set_cons_succ]
      rfl
    refine one_ (i := 15) (N := none) #[true, true, true, true, true, true, true, true, true, true, true, true, true, true, true, true] rfl rfl (one_of HT_.out (by kernel_rfl)) (by decide) (fun K hK => ?_)
    have hs18 : w17.cell? ⟨gb199, 0, none⟩ = some (.int .u8 0) := (blk_cell BK199.out 0).trans rfl
    have hfs18 := blk_frozen BK199.out 0
    have hns18_0 := NB188_199.out
    have hms18_0 := NB199_188.out
    have hs19 : w17.cell? ⟨gb199, 1, none⟩ = some (.int .i64 0) := (blk_cell BK199.out 1).trans rfl
    have hfs19 := blk_frozen BK199.out 1
    have hns19_0 := NB188_199.out
    have hms19_0 := NB199_188.out
    have hs20 : w17.cell? ⟨gb199, 2, none⟩ = some (.int .i64 0) := (blk_cell BK199.out 2).trans rfl
    have hfs20 := blk_frozen BK199.out 2
    have hns20_0 := NB188_199.out
    have hms20_0 := NB199_188.out
    have hs21 : w17.cell? ⟨gb199, 3, none⟩ = some (.slice none 0 0) := (blk_cell BK199.out 3).trans rfl
    have hfs21 := blk_frozen BK199.out 3
    have hns21_0 := NB188_199.out
    have hms21_0 := NB199_188.out
    have hs22 : w17.cell? ⟨gb199, 4, none⟩ = some (.slice none 0 0) := (blk_cell BK199.out 4).trans rfl
    have hfs22 := blk_frozen BK199.out 4
    have hns22_0 := NB188_199.out
    have hms22_0 := NB199_188.out
    refine skip_ (w1 := ?_) (by rfl) rfl ?_ ?_
    rotate_left
    · go_simp
      rfl
    refine hK.out _ _ trivial (fun hHeld => ?_)
    clear hK K
    refine done_ (done_of HT_.out (by kernel_rfl)) ?_
    try go_wp2_with (first | ((with_reducible refine gate_callee (f := 36) rfl ?_); refine goesL_ (some 30) rfl rfl Try.func36 (by kernel_rfl) rfl #[.pointer (some ⟨gb189, 0, none⟩)] rfl argA ?_; (with_reducible refine (block_left_text.calls k gb189 l0 t197 t198 t200 t203 t204 w _ ?side1 ?side2 A5.out).mono ?_); (case side1 => exact block_DecodeOp.ups1 HI189.out NB189_188.out NB189_199.out); (case side2 => exact upB3 HB.out (IsS60.ge HI189.out) GE188.out GE199.out); rintro e w23 ⟨v201, rfl, ho0, hi, hb, hk⟩; refine ⟨_, rfl, ?_⟩; replace BK188 := Aside0.mk (KeepBut.blk hk (g' := gb188) (o := .cells #[.int .u8 0, .int .i64 0, .int .i64 0, .slice none 0 0, .slice none 0 0] 27 (0, 0)) (by refine upK ?_; refine blk_far ?_ NB188_199.out _; refine upK ?_; refine blk_far ?_ NB188_199.out _; refine upK ?_; refine blk_far ?_ NB188_199.out _; refine upK ?_; refine blk_far ?_ NB188_199.out _; refine upK ?_; refine blk_far ?_ NB188_199.out _; refine upK ?_; exact BK188.out) NB188_189.out (by simp)); replace BK199 := Aside0.mk (KeepBut.blk hk (g' := gb199) (o := .cells #[.int .u8 ((t190) % 256), .int .i64 t193, .int .i64 t196, .slice none 0 0, .slice none 0 0] 27 (0, 0)) (by refine upK ?_; refine blk_put (cs := #[.int .u8 ((t190) % 256), .int .i64 t193, .int .i64 t196, .slice none 0 0, .slice none 0 0]) ?_ 4 _ rfl; refine upK ?_; refine blk_put (cs := #[.int .u8 ((t190) % 256), .int .i64 t193, .int .i64 t196, .slice none 0 0, .slice none 0 0]) ?_ 3 _ rfl; refine upK ?_; refine blk_put (cs := #[.int .u8 ((t190) % 256), .int .i64 t193, .int .i64 0, .slice none 0 0, .slice none 0 0]) ?_ 2 _ rfl; refine upK ?_; refine blk_put (cs := #[.int .u8 ((t190) % 256), .int .i64 0, .int .i64 0, .slice none 0 0, .slice none 0 0]) ?_ 1 _ rfl; refine upK ?_; refine blk_put (cs := #[.int .u8 0, .int .i64 0, .int .i64 0, .slice none 0 0, .slice none 0 0]) ?_ 0 _ rfl; refine upK ?_; exact BK199.out) NB199_189.out (by simp)); have HO202 := Aside0.mk (Kd.R_lower ho0 (below_size (upB3 HB.out (IsS60.ge HI189.out) GE188.out GE199.out))); replace HB := Aside0.mk (hb); replace HI189 := Aside0.mk (hi); (try clear hb); (try clear hb2); (try clear hk); (try clear hi); (try clear ho0); obtain ⟨Ao24, co24, eo24⟩ := Kd.R_slice HO202.out; subst eo24; have hnb25 := NB199_188.out; have hnc25 := NB188_199.out; have hnb26 := NB199_189.out; have hnc26 := NB189_199.out; obtain ⟨hcz27_0, hcz27_1, hcz27_2, hcz27_3, hcz27_4, hfz27_0, hfz27_1, hfz27_2, hfz27_3, hfz27_4⟩ := cells5 BK199.out) | ((with_reducible refine gate_callee (f := 36) rfl ?_); refine goesL_ (some 35) rfl rfl Try.func36 (by kernel_rfl) rfl #[.pointer (some ⟨gb189, 0, none⟩)] rfl argA ?_; (with_reducible refine (block_left_text.calls k gb189 l0 t203 t204 t205 t208 t209 w _ ?side1 ?side2 A6.out).mono ?_); (case side1 => exact block_DecodeOp.ups1 HI189.out NB189_188.out NB189_199.out); (case side2 => exact upB3 HB.out (IsS60.ge HI189.out) GE188.out GE199.out); rintro e w28 ⟨v206, rfl, ho0, hi, hb, hk⟩; refine ⟨_, rfl, ?_⟩; replace BK188 := Aside0.mk (KeepBut.blk hk (g' := gb188) (o := .cells #[.int .u8 0, .int .i64 0, .int .i64 0, .slice none 0 0, .slice none 0 0] 27 (0, 0)) (by refine upK ?_; refine blk_far ?_ NB188_199.out _; refine upK ?_; exact BK188.out) NB188_189.out (by simp)); have HO207 := Aside0.mk (Kd.R_lower (Kd.R_new' ho0 (Kd.R_lt (by refine upR ?_; exact (fR1 (Kd.R_types HO202.out BK199.out (by decide)))))) (below_size (upB3 HB.out (IsS60.ge HI189.out) GE188.out GE199.out))); replace HO202 := Aside0.mk (Kd.R_mono (Kd.R_told (Kd.R_oldK (IsS60.apart (show IsS60 w _ gb189 l0 t203 t204 from block_DecodeOp.ups1 HI189.out NB189_188.out NB189_199.out) (by refine upR ?_; exact (fR1 (Kd.R_types HO202.out BK199.out (by decide)))) (by decide)) hk) (Kd.R_base ho0)) (fun _ h_ => h_.1)); replace BK199 := Aside0.mk (KeepBut.blk hk (g' := gb199) (o := .cells #[.int .u8 ((t190) % 256), .int .i64 t193, .int .i64 t196, .slice Ao24 t200.length co24, .slice none 0 0] 27 (0, 0)) (by refine upK ?_; refine blk_put (cs := #[.int .u8 ((t190) % 256), .int .i64 t193, .int .i64 t196, .slice none 0 0, .slice none 0 0]) ?_ 3 _ rfl; refine upK ?_; exact BK199.out) NB199_189.out (by simp)); replace HB := Aside0.mk (hb); replace HI189 := Aside0.mk (hi); (try clear hb); (try clear hb2); (try clear hk); (try clear hi); (try clear ho0); obtain ⟨Ao29, co29, eo29⟩ := Kd.R_slice HO207.out; subst eo29; obtain ⟨hcz30_0, hcz30_1, hcz30_2, hcz30_3, hcz30_4, hfz30_0, hfz30_1, hfz30_2, hfz30_3, hfz30_4⟩ := cells5 BK199.out) | ((with_reducible refine gate_callee (f := 19) rfl ?_); refine goesL_ (some 40) rfl rfl Try.func19 (by kernel_rfl) rfl #[.agg #[.int .u8 ((t190) % 256), .int .i64 t193, .int .i64 t196, .slice Ao24 t200.length co24, .slice Ao29 t205.length co29]] rfl argA ?_; (with_reducible refine (block_Form.calls ((t190) % 256) t193 t196 _ _ t200 _ _ t205 t210 _ ?side1 ?side2 ?side3 ?side4 A7.out).mono ?_); (case side1 => refine (Kd.R_reads' (e := 5) (base := w.heap.size) (ok := fun k_ => (True ∧ some k_ ≠ (.slice Ao29 t205.length co29 : Value).ownBlock)) (n := t200.length) (c := co24) ?_).2.2; exact (by refine upR ?_; exact (fR1 (Kd.R_types HO202.out BK199.out (by decide))))); (case side2 => exact (Kd.R_reads' HO202.out).2.1); (case side3 => refine (Kd.R_reads' (e := 5) (base := w.heap.size) (ok := fun k_ => (True ∧ some k_ ≠ (.slice Ao24 t200.length co24 : Value).ownBlock)) (n := t205.length) (c := co29) ?_).2.2; exact (by refine upR ?_; exact (fR1 (Kd.R_types HO207.out BK199.out (by decide))))); (case side4 => exact (Kd.R_reads' HO207.out).2.1); rintro e w31 ⟨rfl, hb⟩; refine ⟨_, rfl, ?_⟩; replace HO202 := Aside0.mk (Kd.R_below (by refine upR ?_; exact (fR1 (Kd.R_types HO202.out BK199.out (by decide)))) hb); replace HO207 := Aside0.mk (Kd.R_below (by refine upR ?_; exact (fR1 (Kd.R_types HO207.out BK199.out (by decide)))) hb); replace BK188 := Aside0.mk (blk_below (g := gb188) (o := .cells #[.int .u8 0, .int .i64 0, .int .i64 0, .slice none 0 0, .slice none 0 0] 27 (0, 0)) (by refine upK ?_; refine blk_far ?_ NB188_199.out _; refine upK ?_; exact BK188.out) hb); replace BK199 := Aside0.mk (blk_below (g := gb199) (o := .cells #[.int .u8 ((t190) % 256), .int .i64 t193, .int .i64 t196, .slice Ao24 t200.length co24, .slice Ao29 t205.length co29] 27 (0, 0)) (by refine upK ?_; refine blk_put (cs := #[.int .u8 ((t190) % 256), .int .i64 t193, .int .i64 t196, .slice Ao24 t200.length co24, .slice none 0 0]) ?_ 4 _ rfl; refine upK ?_; exact BK199.out) hb); replace HB := Aside0.mk (below_step (upB3 HB.out (IsS60.ge HI189.out) GE188.out GE199.out) hb); replace HI189 := Aside0.mk (IsS60.below (show IsS60 w (w28.setCell ⟨gb199, 4, none⟩ (.slice Ao29 t205.length co29)) gb189 l0 t208 t209 from block_DecodeOp.ups1 HI189.out NB189_188.out NB189_199.out) hb); (try clear hb); (try clear hb2); (try clear hk); (try clear hi)) | ((with_reducible refine gate_callee (f := 37) rfl ?_); refine goesL_ (some 41) rfl rfl Try.func37 (by kernel_rfl) rfl #[.pointer (some ⟨gb189, 0, none⟩), .int .i64 t210] rfl argA ?_; (with_reducible refine (block_reader_end.calls gb189 l0 t208 t209 t210 t211 t212 t213 t214 w _ ?side1 ?side2 A8.out).mono ?_); (case side1 => exact block_DecodeOp.ups1 HI189.out NB189_188.out NB189_199.out); (case side2 => exact upB3 HB.out (IsS60.ge HI189.out) GE188.out GE199.out); rintro e w32 ⟨rfl, hi, hb, hk⟩; refine ⟨_, rfl, ?_⟩; replace BK188 := Aside0.mk (KeepBut.blk hk (upK BK188.out) NB188_189.out (by simp)); replace BK199 := Aside0.mk (KeepBut.blk hk (upK BK199.out) NB199_189.out (by simp)); replace HO202 := Aside0.mk (Kd.R_mono (Kd.R_keep (IsS62.apart (show IsS62 w _ gb189 l0 t208 t209 from block_DecodeOp.ups1 HI189.out NB189_188.out NB189_199.out) (upR HO202.out) (by decide)) hk (fun _ h => h.2)) (fun _ h => h.1)); replace HO207 := Aside0.mk (Kd.R_mono (Kd.R_keep (IsS62.apart (show IsS62 w _ gb189 l0 t208 t209 from block_DecodeOp.ups1 HI189.out NB189_188.out NB189_199.out) (upR HO207.out) (by decide)) hk (fun _ h => h.2)) (fun _ h => h.1)); replace HB := Aside0.mk (hb); replace HI189 := Aside0.mk (hi); (try clear hb); (try clear hb2); (try clear hk); (try clear hi); obtain ⟨hcz33_0, hcz33_1, hcz33_2, hcz33_3, hcz33_4, hfz33_0, hfz33_1, hfz33_2, hfz33_3, hfz33_4⟩ := cells5 BK199.out; have hnb34 := NB188_189.out; have hnc34 := NB189_188.out; obtain ⟨hcz35_0, hcz35_1, hcz35_2, hcz35_3, hcz35_4, hfz35_0, hfz35_1, hfz35_2, hfz35_3, hfz35_4⟩ := cells5 BK188.out))
    refine bodyPost_ret (results_ctt rfl _ _ gb188 27 #[.int .u8 ((t190) % 256), .int .i64 t193, .int .i64 t196, .slice Ao24 t200.length co24, .slice Ao29 t205.length co29] (0, 0) _ rfl (by refine upK ?_; refine blk_put (cs := #[.int .u8 ((t190) % 256), .int .i64 t193, .int .i64 t196, .slice Ao24 t200.length co24, .slice none 0 0]) ?_ 4 _ rfl; refine upK ?_; refine blk_put (cs := #[.int .u8 ((t190) % 256), .int .i64 t193, .int .i64 t196, .slice none 0 0, .slice none 0 0]) ?_ 3 _ rfl; refine upK ?_; refine blk_put (cs := #[.int .u8 ((t190) % 256), .int .i64 t193, .int .i64 0, .slice none 0 0, .slice none 0 0]) ?_ 2 _ rfl; refine upK ?_; refine blk_put (cs := #[.int .u8 ((t190) % 256), .int .i64 0, .int .i64 0, .slice none 0 0, .slice none 0 0]) ?_ 1 _ rfl; refine upK ?_; refine blk_put (cs := #[.int .u8 0, .int .i64 0, .int .i64 0, .slice none 0 0, .slice none 0 0]) ?_ 0 _ rfl; refine upK ?_; exact BK188.out) Try.underlying27 rfl (by kernel_rfl)) rfl ?_
    exact ⟨_, _, by first | rfl | (simp [errW_none, errW_some] <;> rfl) | (simp [*, errW_none, errW_some] <;> rfl), by refine upR ?_; exact Kd.R_mono (garR5 (g := gb188) (Kd.R_types HO202.out BK188.out (by decide)) 0 (.int .u8 ((t190) % 256)) 1 (.int .i64 t193) 2 (.int .i64 t196) 3 (.slice Ao24 t200.length co24) 4 (.slice Ao29 t205.length co29)) (fun _ hk => hk.1.2), by refine upR ?_; exact Kd.R_mono (garR5 (g := gb188) (Kd.R_types HO207.out BK188.out (by decide)) 0 (.int .u8 ((t190) % 256)) 1 (.int .i64 t193) 2 (.int .i64 t196) 3 (.slice Ao24 t200.length co24) 4 (.slice Ao29 t205.length co29)) (fun _ hk => hk.1.2), upB3 HB.out (IsS60.ge HI189.out) GE188.out GE199.out⟩
  · rw [if_neg c9] at H
    have c9b0 : (t212 == 0) = false := beq_eq_false_iff_ne.mpr c9
    have c9b1 : (t212 != 0) = true := bne_iff_ne.mpr c9
    simp only [Option.some.injEq, Prod.mk.injEq] at H
    obtain ⟨rfl, rfl, rfl, rfl, rfl, rfl, rfl⟩ := H
    go_enter Try.func14, Try.ntmps14
    try go_wp2_with (first | ((with_reducible refine gate_dst (N := 2) rfl ?_); refine box_event ?hg (N := 2) ?hd (cs := #[.int .u8 0, .int .i64 0, .int .i64 0, .slice none 0 0, .slice none 0 0]) (t := 27) ?hr ?_; (case hd => rfl); (case hg => rfl); (case hr => first | (go_simp; done) | (go_simp; rfl)); intro gb188 hg w36 hbox hb; have BK188 := Aside0.mk (hbox); have GW188 := Aside0.mk ((by rw [hg]; exact (below_size (upB0 HB.out)) : w.heap.size ≤ gb188)); have GE188 := Aside0.mk ((by rw [hg]; exact (below_size (upB0 HB.out)) : w.heap.size ≤ gb188)); replace HB := Aside0.mk (below_step (upB0 HB.out) hb); clear hb hbox hg) | ((with_reducible refine gate_dst (N := 12) rfl ?_); refine box_event ?hg (N := 12) ?hd (cs := #[.slice A0 l0.length c0, .int .i64 0, .int .i64 0]) (t := 62) ?hr ?_; (case hd => rfl); (case hg => rfl); (case hr => first | (go_simp; done) | (go_simp; rfl)); intro gb189 hg w37 hbox hb; have BK189 := Aside0.mk (hbox); have GW189 := Aside0.mk ((by rw [hg]; exact (below_size (upB1 HB.out GE188.out)) : w.heap.size ≤ gb189)); have GE189 := Aside0.mk ((by rw [hg]; exact (below_size (upB1 HB.out GE188.out)) : w.heap.size ≤ gb189)); replace HB := Aside0.mk (below_step (upB1 HB.out GE188.out) hb); have NB188_189 := Aside0.mk ((by rw [hg]; exact Nat.ne_of_lt (blk_lt (upK BK188.out)) : gb188 ≠ gb189)); have NB189_188 := Aside0.mk ((by rw [hg]; exact Nat.ne_of_gt (blk_lt (upK BK188.out)) : gb189 ≠ gb188)); replace BK188 := Aside0.mk (blk_below (upK BK188.out) hb); clear hb hbox hg; have HI189 := Aside0.mk (show IsS60 w _ gb189 l0 0 0 from ⟨_, _, BK189.out, GE189.out, ⟨HC0.out, HR0.out⟩⟩); clear BK189))
    replace BK188 := Aside0.mk (blk_drew BK188.out)
    replace HI189 := Aside0.mk (IsS60.drew HI189.out)
    replace HB := Aside0.mk (below_drew1 HB.out)
    refine start_ (n := 16) (S := fun w' => True) (ds := []) #[false, false, false, false, false, false, false, false, false, false, false, false, false, false, false, false] (by kernel_rfl) rfl rfl trivial (fun hHeld => ?_); refine with_tabW block_DecodeOp.tab2 block_DecodeOp.bits2 (fun HT_ HW_ => ?_)
    generalize w37.drew = w38 at BK188 HI189 HB hHeld ⊢
    refine pure_ (i := 0) (N := some 13) (v := ?_) (a' := ?_) #[true, false, false, false, false, false, false, false, false, false, false, false, false, false, false, false] rfl rfl (any_of HT_.out (by kernel_rfl)) (fun _ _ _ h => h) (Or.inl ⟨by rfl, ?_⟩) ?_ ?_
    rotate_left
    · intro w'
      go_simp
      with_reducible rfl
    rotate_left
    · simp only [Act.put, List.setIfInBounds_toArray, List.set_cons_zero, List.set_cons_succ, i64_w, i32_w]
      rfl
    refine pure_ (i := 1) (N := some 14) (v := ?_) (a' := ?_) #[true, true, false, false, false, false, false, false, false, false, false, false, false, false, false, false] rfl rfl (any_of HT_.out (by kernel_rfl)) (fun _ _ _ h => h) (Or.inl ⟨by rfl, ?_⟩) ?_ ?_
    rotate_left
    · intro w'
      go_simp
      with_reducible rfl
    rotate_left
    · simp only [Act.put, List.setIfInBounds_toArray, List.set_cons_zero, List.set_cons_succ, i64_w, i32_w]
      rfl
    refine pure_ (i := 2) (N := some 15) (v := ?_) (a' := ?_) #[true, true, true, false, false, false, false, false, false, false, false, false, false, false, false, false] rfl rfl (any_of HT_.out (by kernel_rfl)) (fun _ _ _ h => h) (Or.inl ⟨by rfl, ?_⟩) ?_ ?_
    rotate_left
    · intro w'
      go_simp
      with_reducible rfl
    rotate_left
    · simp only [Act.put, List.setIfInBounds_toArray, List.set_cons_zero, List.set_cons_succ, i64_w, i32_w]
      rfl
    refine pure_ (i := 5) (N := some 18) (v := ?_) (a' := ?_) #[true, true, true, false, false, true, false, false, false, false, false, false, false, false, false, false] rfl rfl (any_of HT_.out (by kernel_rfl)) (fun _ _ _ h => h) (Or.inl ⟨by rfl, ?_⟩) ?_ ?_
    rotate_left
    · intro w'
      go_simp
      with_reducible rfl
    rotate_left
    · simp only [Act.put, List.setIfInBounds_toArray, List.set_cons_zero, List.set_cons_succ, i64_w, i32_w]
      rfl
    refine pure_ (i := 6) (N := some 19) (v := ?_) (a' := ?_) #[true, true, true, false, false, true, true, false, false, false, false, false, false, false, false, false] rfl rfl (any_of HT_.out (by kernel_rfl)) (fun _ _ _ h => h) (Or.inl ⟨by rfl, ?_⟩) ?_ ?_
    rotate_left
    · intro w'
      go_simp
      with_reducible rfl
    rotate_left
    · simp only [Act.put, List.setIfInBounds_toArray, List.set_cons_zero, List.set_cons_succ, i64_w, i32_w]
      rfl
    refine pure_ (i := 7) (N := some 20) (v := ?_) (a' := ?_) #[true, true, true, false, false, true, true, true, false, false, false, false, false, false, false, false] rfl rfl (any_of HT_.out (by kernel_rfl)) (fun _ _ _ h => h) (Or.inl ⟨by rfl, ?_⟩) ?_ ?_
    rotate_left
    · intro w'
      go_simp
      with_reducible rfl
    rotate_left
    · simp only [Act.put, List.setIfInBounds_toArray, List.set_cons_zero, List.set_cons_succ, i64_w, i32_w]
      rfl
    refine pure_ (i := 9) (N := some 22) (v := ?_) (a' := ?_) #[true, true, true, false, false, true, true, true, false, true, false, false, false, false, false, false] rfl rfl (any_of HT_.out (by kernel_rfl)) (fun _ _ _ h => h) (Or.inl ⟨by rfl, ?_⟩) ?_ ?_
    rotate_left
    · intro w'
      go_simp
      with_reducible rfl
    rotate_left
    · simp only [Act.put, List.setIfInBounds_toArray, List.set_cons_zero, List.set_cons_succ, i64_w, i32_w]
      rfl
    refine pure_ (i := 10) (N := some 23) (v := ?_) (a' := ?_) #[true, true, true, false, false, true, true, true, false, true, true, false, false, false, false, false] rfl rfl (any_of HT_.out (by kernel_rfl)) (fun _ _ _ h => h) (Or.inl ⟨by rfl, ?_⟩) ?_ ?_
    rotate_left
    · intro w'
      go_simp
      with_reducible rfl
    rotate_left
    · simp only [Act.put, List.setIfInBounds_toArray, List.set_cons_zero, List.set_cons_succ, i64_w, i32_w]
      rfl
    refine pure_ (i := 11) (N := some 24) (v := ?_) (a' := ?_) #[true, true, true, false, false, true, true, true, false, true, true, true, false, false, false, false] rfl rfl (any_of HT_.out (by kernel_rfl)) (fun _ _ _ h => h) (Or.inl ⟨by rfl, ?_⟩) ?_ ?_
    rotate_left
    · intro w'
      go_simp
      with_reducible rfl
    rotate_left
    · simp only [Act.put, List.setIfInBounds_toArray, List.set_cons_zero, List.set_cons_succ, i64_w, i32_w]
      rfl
    refine join_ (σ := Nat) 1 #[true, true, true, true, true, true, true, true, true, true, true, true, true, true, true, false] (fun s_ => [(16, .int .i64 t190), (21, .int .i64 t193), (25, .int .i64 t196), (6, .pointer (some ⟨s_, 0, none⟩)), (17, .int .u8 ((t190) % 256)), (26, .agg #[.int .u8 ((t190) % 256), .int .i64 t193, .int .i64 t196, .slice none 0 0, .slice none 0 0])]) (fun s_ w' => (w'.heap[gb188]? = some (.cells #[.int .u8 0, .int .i64 0, .int .i64 0, .slice none 0 0, .slice none 0 0] 27 (0, 0))) ∧ (w'.heap[s_]? = some (.cells #[.int .u8 0, .int .i64 0, .int .i64 0, .slice none 0 0, .slice none 0 0] 27 (0, 0))) ∧ (w.heap.size ≤ s_) ∧ (w.heap.size ≤ s_) ∧ (gb189 ≠ s_) ∧ (s_ ≠ gb189) ∧ (gb188 ≠ s_) ∧ (s_ ≠ gb188) ∧ (IsS60 w w' gb189 l0 t197 t198) ∧ (Below w.heap.size w w')) ?_ ?_
    rotate_left
    · intro hCont
      refine two_ (i := 3) (j := 14) (Ni := some 16) (Nj := some 6) #[true, true, true, true, false, true, true, true, false, true, true, true, false, false, false, false] #[true, true, true, false, false, true, true, true, false, true, true, true, false, false, true, false] rfl rfl rfl rfl (two_of HT_.out (by kernel_rfl)) (by decide) (by decide) (fun K hK => ?_) (fun K hK => ?_)
      · skip
        refine goes_ Try.func35 (by kernel_rfl) rfl #[.pointer (some ⟨gb189, 0, none⟩), .int .i64 1] (by rfl) rfl rfl argA ?_
        with_reducible refine (block_left_number.calls k gb189 l0 0 0 1 t190 t191 t192 w _ ?side1 ?side2 A2.out).mono ?_
        (case side1 => exact block_DecodeOp.ups0 HI189.out NB189_188.out)
        (case side2 => exact upB2 HB.out (IsS60.ge HI189.out) GE188.out)
        rintro e w39 ⟨rfl, hi, hb, hk⟩
        refine ⟨_, rfl, ?_⟩
        replace BK188 := Aside0.mk (KeepBut.blk hk (upK BK188.out) NB188_189.out (by simp))
        replace HB := Aside0.mk (hb)
        replace HI189 := Aside0.mk (hi)
        (try clear hb)
        (try clear hb2)
        (try clear hk)
        (try clear hi)
        refine hK.out _ _ trivial (fun hHeld => ?_)
        clear hK K
        refine norm_ (a' := ?_) ?_ ?_
        rotate_left
        · show Act.put _ (some 16) _ = _
          simp only [Act.put, List.setIfInBounds_toArray, List.set_cons_zero, List.set_cons_succ, i64_w, i32_w]
          rfl
        refine pure_ (i := 4) (N := some 17) (v := ?_) (a' := ?_) #[true, true, true, true, true, true, true, true, false, true, true, true, false, false, false, false] rfl rfl (any_of HT_.out (by kernel_rfl)) (fun _ _ _ h => h) (Or.inl ⟨by rfl, ?_⟩) ?_ ?_
        rotate_left
        · intro w'
          go_simp
          with_reducible rfl
        rotate_left
        · simp only [Act.put, List.setIfInBounds_toArray, List.set_cons_zero, List.set_cons_succ, i64_w, i32_w]
          rfl
        refine two_ (i := 8) (j := 14) (Ni := some 21) (Nj := some 6) #[true, true, true, true, true, true, true, true, true, true, true, true, false, false, false, false] #[true, true, true, true, true, true, true, true, false, true, true, true, false, false, true, false] rfl rfl rfl rfl (two_of HT_.out (by kernel_rfl)) (by decide) (by decide) (fun K hK => ?_) (fun K hK => ?_)
        · skip
          refine goes_ Try.func35 (by kernel_rfl) rfl #[.pointer (some ⟨gb189, 0, none⟩), .int .i64 4] (by rfl) rfl rfl argA ?_
          with_reducible refine (block_left_number.calls k gb189 l0 t191 t192 4 t193 t194 t195 w _ ?side1 ?side2 A3.out).mono ?_
          (case side1 => exact block_DecodeOp.ups0 HI189.out NB189_188.out)
          (case side2 => exact upB2 HB.out (IsS60.ge HI189.out) GE188.out)
          rintro e w40 ⟨rfl, hi, hb, hk⟩
          refine ⟨_, rfl, ?_⟩
          replace BK188 := Aside0.mk (KeepBut.blk hk (upK BK188.out) NB188_189.out (by simp))
          replace HB := Aside0.mk (hb)
          replace HI189 := Aside0.mk (hi)
          (try clear hb)
          (try clear hb2)
          (try clear hk)
          (try clear hi)
          refine hK.out _ _ trivial (fun hHeld => ?_)
          clear hK K
          refine norm_ (a' := ?_) ?_ ?_
          rotate_left
          · show Act.put _ (some 21) _ = _
            simp only [Act.put, List.setIfInBounds_toArray, List.set_cons_zero, List.set_cons_succ, i64_w, i32_w]
            rfl
          refine two_ (i := 12) (j := 14) (Ni := some 25) (Nj := some 6) #[true, true, true, true, true, true, true, true, true, true, true, true, true, false, false, false] #[true, true, true, true, true, true, true, true, true, true, true, true, false, false, true, false] rfl rfl rfl rfl (two_of HT_.out (by kernel_rfl)) (by decide) (by decide) (fun K hK => ?_) (fun K hK => ?_)
          · skip
            refine goes_ Try.func35 (by kernel_rfl) rfl #[.pointer (some ⟨gb189, 0, none⟩), .int .i64 4] (by rfl) rfl rfl argA ?_
            with_reducible refine (block_left_number.calls k gb189 l0 t194 t195 4 t196 t197 t198 w _ ?side1 ?side2 A4.out).mono ?_
            (case side1 => exact block_DecodeOp.ups0 HI189.out NB189_188.out)
            (case side2 => exact upB2 HB.out (IsS60.ge HI189.out) GE188.out)
            rintro e w41 ⟨rfl, hi, hb, hk⟩
            refine ⟨_, rfl, ?_⟩
            replace BK188 := Aside0.mk (KeepBut.blk hk (upK BK188.out) NB188_189.out (by simp))
            replace HB := Aside0.mk (hb)
            replace HI189 := Aside0.mk (hi)
            (try clear hb)
            (try clear hb2)
            (try clear hk)
            (try clear hi)
            refine hK.out _ _ trivial (fun hHeld => ?_)
            clear hK K
            refine norm_ (a' := ?_) ?_ ?_
            rotate_left
            · show Act.put _ (some 25) _ = _
              simp only [Act.put, List.setIfInBounds_toArray, List.set_cons_zero, List.set_cons_succ, i64_w, i32_w]
              rfl
            refine pure_ (i := 13) (N := some 26) (v := ?_) (a' := ?_) #[true, true, true, true, true, true, true, true, true, true, true, true, true, true, false, false] rfl rfl (any_of HT_.out (by kernel_rfl)) (fun _ _ _ h => h) (Or.inl ⟨by rfl, ?_⟩) ?_ ?_
            rotate_left
            · intro w'
              go_simp
              with_reducible rfl
            rotate_left
            · simp only [Act.put, List.setIfInBounds_toArray, List.set_cons_zero, List.set_cons_succ, i64_w, i32_w]
              rfl
            refine one_ (i := 14) (N := some 6) #[true, true, true, true, true, true, true, true, true, true, true, true, true, true, true, false] rfl rfl (one_of HT_.out (by kernel_rfl)) (by decide) (fun K hK => ?_)
            refine box_step ?hg (N := 6) ?hd (cs := #[.int .u8 0, .int .i64 0, .int .i64 0, .slice none 0 0, .slice none 0 0]) (t := 27) ?hr ?_; (case hd => rfl); (case hg => rfl); (case hr => first | (go_simp; done) | (go_simp; rfl))
            intro gb199 hg w42 hbox hb
            have BK199 := Aside0.mk (hbox)
            have GW199 := Aside0.mk ((by rw [hg]; exact (below_size (upB2 HB.out (IsS60.ge HI189.out) GE188.out)) : w.heap.size ≤ gb199))
            have GE199 := Aside0.mk ((by rw [hg]; exact (below_size (upB2 HB.out (IsS60.ge HI189.out) GE188.out)) : w.heap.size ≤ gb199))
            replace HB := Aside0.mk (below_step (upB2 HB.out (IsS60.ge HI189.out) GE188.out) hb)
            have NB188_199 := Aside0.mk ((by rw [hg]; exact Nat.ne_of_lt (blk_lt (upK BK188.out)) : gb188 ≠ gb199))
            have NB199_188 := Aside0.mk ((by rw [hg]; exact Nat.ne_of_gt (blk_lt (upK BK188.out)) : gb199 ≠ gb188))
            replace BK188 := Aside0.mk (blk_below (upK BK188.out) hb)
            have NB189_199 := Aside0.mk ((by rw [hg]; exact Nat.ne_of_lt (IsS60.lt (show IsS60 w _ gb189 l0 t197 t198 from block_DecodeOp.ups0 HI189.out NB189_188.out)) : gb189 ≠ gb199))
            have NB199_189 := Aside0.mk ((by rw [hg]; exact Nat.ne_of_gt (IsS60.lt (show IsS60 w _ gb189 l0 t197 t198 from block_DecodeOp.ups0 HI189.out NB189_188.out)) : gb199 ≠ gb189))
            replace HI189 := Aside0.mk (IsS60.below (block_DecodeOp.ups0 HI189.out NB189_188.out) hb)
            clear hb hbox hg
            refine hK.out _ _ trivial (fun hHeld => ?_)
            clear hK K
            refine norm_ (a' := ?_) ?_ ?_
            rotate_left
            · show Act.put _ (some 6) _ = _
              simp only [Act.put, List.setIfInBounds_toArray, List.set_cons_zero, List.set_cons_succ, i64_w, i32_w]
              rfl
            exact norm_ (by first | (simp only [putAll, Act.put, List.setIfInBounds_toArray, List.set_cons_zero, List.set_cons_succ]; done) | simp only [IntKind.wrap_u8, IntKind.wrap_u16, IntKind.wrap_u32, putAll, Act.put, List.setIfInBounds_toArray, List.set_cons_zero, List.set_cons_succ]) (hCont (gb199) _ ⟨(upK BK188.out), (upK BK199.out), GW199.out, GE199.out, NB189_199.out, NB199_189.out, NB188_199.out, NB199_188.out, (block_DecodeOp.ups1 HI189.out NB189_188.out NB189_199.out), (upB3 HB.out (IsS60.ge HI189.out) GE188.out GE199.out)⟩)
          · skip
            refine box_step ?hg (N := 6) ?hd (cs := #[.int .u8 0, .int .i64 0, .int .i64 0, .slice none 0 0, .slice none 0 0]) (t := 27) ?hr ?_; (case hd => rfl); (case hg => rfl); (case hr => first | (go_simp; done) | (go_simp; rfl))
            intro gb199 hg w41 hbox hb
            have BK199 := Aside0.mk (hbox)
            have GW199 := Aside0.mk ((by rw [hg]; exact (below_size (upB2 HB.out (IsS60.ge HI189.out) GE188.out)) : w.heap.size ≤ gb199))
            have GE199 := Aside0.mk ((by rw [hg]; exact (below_size (upB2 HB.out (IsS60.ge HI189.out) GE188.out)) : w.heap.size ≤ gb199))
            replace HB := Aside0.mk (below_step (upB2 HB.out (IsS60.ge HI189.out) GE188.out) hb)
            have NB188_199 := Aside0.mk ((by rw [hg]; exact Nat.ne_of_lt (blk_lt (upK BK188.out)) : gb188 ≠ gb199))
            have NB199_188 := Aside0.mk ((by rw [hg]; exact Nat.ne_of_gt (blk_lt (upK BK188.out)) : gb199 ≠ gb188))
            replace BK188 := Aside0.mk (blk_below (upK BK188.out) hb)
            have NB189_199 := Aside0.mk ((by rw [hg]; exact Nat.ne_of_lt (IsS60.lt (show IsS60 w _ gb189 l0 t194 t195 from block_DecodeOp.ups0 HI189.out NB189_188.out)) : gb189 ≠ gb199))
            have NB199_189 := Aside0.mk ((by rw [hg]; exact Nat.ne_of_gt (IsS60.lt (show IsS60 w _ gb189 l0 t194 t195 from block_DecodeOp.ups0 HI189.out NB189_188.out)) : gb199 ≠ gb189))
            replace HI189 := Aside0.mk (IsS60.below (block_DecodeOp.ups0 HI189.out NB189_188.out) hb)
            clear hb hbox hg
            refine hK.out _ _ trivial (fun hHeld => ?_)
            clear hK K
            refine norm_ (a' := ?_) ?_ ?_
            rotate_left
            · show Act.put _ (some 6) _ = _
              simp only [Act.put, List.setIfInBounds_toArray, List.set_cons_zero, List.set_cons_succ, i64_w, i32_w]
              rfl
            refine one_ (i := 12) (N := some 25) #[true, true, true, true, true, true, true, true, true, true, true, true, true, false, true, false] rfl rfl (one_of HT_.out (by kernel_rfl)) (by decide) (fun K hK => ?_)
            refine goes_ Try.func35 (by kernel_rfl) rfl #[.pointer (some ⟨gb189, 0, none⟩), .int .i64 4] (by rfl) rfl rfl argA ?_
            with_reducible refine (block_left_number.calls k gb189 l0 t194 t195 4 t196 t197 t198 w _ ?side1 ?side2 A4.out).mono ?_
            (case side1 => exact block_DecodeOp.ups1 HI189.out NB189_188.out NB189_199.out)
            (case side2 => exact upB3 HB.out (IsS60.ge HI189.out) GE188.out GE199.out)
            rintro e w42 ⟨rfl, hi, hb, hk⟩
            refine ⟨_, rfl, ?_⟩
            replace BK188 := Aside0.mk (KeepBut.blk hk (upK BK188.out) NB188_189.out (by simp))
            replace BK199 := Aside0.mk (KeepBut.blk hk (upK BK199.out) NB199_189.out (by simp))
            replace HB := Aside0.mk (hb)
            replace HI189 := Aside0.mk (hi)
            (try clear hb)
            (try clear hb2)
            (try clear hk)
            (try clear hi)
            refine hK.out _ _ trivial (fun hHeld => ?_)
            clear hK K
            refine norm_ (a' := ?_) ?_ ?_
            rotate_left
            · show Act.put _ (some 25) _ = _
              simp only [Act.put, List.setIfInBounds_toArray, List.set_cons_zero, List.set_cons_succ, i64_w, i32_w]
              rfl
            refine pure_ (i := 13) (N := some 26) (v := ?_) (a' := ?_) #[true, true, true, true, true, true, true, true, true, true, true, true, true, true, true, false] rfl rfl (any_of HT_.out (by kernel_rfl)) (fun _ _ _ h => h) (Or.inl ⟨by rfl, ?_⟩) ?_ ?_
            rotate_left
            · intro w'
              go_simp
              with_reducible rfl
            rotate_left
            · simp only [Act.put, List.setIfInBounds_toArray, List.set_cons_zero, List.set_cons_succ, i64_w, i32_w]
              rfl
            exact norm_ (by first | (simp only [putAll, Act.put, List.setIfInBounds_toArray, List.set_cons_zero, List.set_cons_succ]; done) | simp only [IntKind.wrap_u8, IntKind.wrap_u16, IntKind.wrap_u32, putAll, Act.put, List.setIfInBounds_toArray, List.set_cons_zero, List.set_cons_succ]) (hCont (gb199) _ ⟨(upK BK188.out), (upK BK199.out), GW199.out, GE199.out, NB189_199.out, NB199_189.out, NB188_199.out, NB199_188.out, (block_DecodeOp.ups1 HI189.out NB189_188.out NB189_199.out), (upB3 HB.out (IsS60.ge HI189.out) GE188.out GE199.out)⟩)
        · skip
          refine box_step ?hg (N := 6) ?hd (cs := #[.int .u8 0, .int .i64 0, .int .i64 0, .slice none 0 0, .slice none 0 0]) (t := 27) ?hr ?_; (case hd => rfl); (case hg => rfl); (case hr => first | (go_simp; done) | (go_simp; rfl))
          intro gb199 hg w40 hbox hb
          have BK199 := Aside0.mk (hbox)
          have GW199 := Aside0.mk ((by rw [hg]; exact (below_size (upB2 HB.out (IsS60.ge HI189.out) GE188.out)) : w.heap.size ≤ gb199))
          have GE199 := Aside0.mk ((by rw [hg]; exact (below_size (upB2 HB.out (IsS60.ge HI189.out) GE188.out)) : w.heap.size ≤ gb199))
          replace HB := Aside0.mk (below_step (upB2 HB.out (IsS60.ge HI189.out) GE188.out) hb)
          have NB188_199 := Aside0.mk ((by rw [hg]; exact Nat.ne_of_lt (blk_lt (upK BK188.out)) : gb188 ≠ gb199))
          have NB199_188 := Aside0.mk ((by rw [hg]; exact Nat.ne_of_gt (blk_lt (upK BK188.out)) : gb199 ≠ gb188))
          replace BK188 := Aside0.mk (blk_below (upK BK188.out) hb)
          have NB189_199 := Aside0.mk ((by rw [hg]; exact Nat.ne_of_lt (IsS60.lt (show IsS60 w _ gb189 l0 t191 t192 from block_DecodeOp.ups0 HI189.out NB189_188.out)) : gb189 ≠ gb199))
          have NB199_189 := Aside0.mk ((by rw [hg]; exact Nat.ne_of_gt (IsS60.lt (show IsS60 w _ gb189 l0 t191 t192 from block_DecodeOp.ups0 HI189.out NB189_188.out)) : gb199 ≠ gb189))
          replace HI189 := Aside0.mk (IsS60.below (block_DecodeOp.ups0 HI189.out NB189_188.out) hb)
          clear hb hbox hg
          refine hK.out _ _ trivial (fun hHeld => ?_)
          clear hK K
          refine norm_ (a' := ?_) ?_ ?_
          rotate_left
          · show Act.put _ (some 6) _ = _
            simp only [Act.put, List.setIfInBounds_toArray, List.set_cons_zero, List.set_cons_succ, i64_w, i32_w]
            rfl
          refine one_ (i := 8) (N := some 21) #[true, true, true, true, true, true, true, true, true, true, true, true, false, false, true, false] rfl rfl (one_of HT_.out (by kernel_rfl)) (by decide) (fun K hK => ?_)
          refine goes_ Try.func35 (by kernel_rfl) rfl #[.pointer (some ⟨gb189, 0, none⟩), .int .i64 4] (by rfl) rfl rfl argA ?_
          with_reducible refine (block_left_number.calls k gb189 l0 t191 t192 4 t193 t194 t195 w _ ?side1 ?side2 A3.out).mono ?_
          (case side1 => exact block_DecodeOp.ups1 HI189.out NB189_188.out NB189_199.out)
          (case side2 => exact upB3 HB.out (IsS60.ge HI189.out) GE188.out GE199.out)
          rintro e w41 ⟨rfl, hi, hb, hk⟩
          refine ⟨_, rfl, ?_⟩
          replace BK188 := Aside0.mk (KeepBut.blk hk (upK BK188.out) NB188_189.out (by simp))
          replace BK199 := Aside0.mk (KeepBut.blk hk (upK BK199.out) NB199_189.out (by simp))
          replace HB := Aside0.mk (hb)
          replace HI189 := Aside0.mk (hi)
          (try clear hb)
          (try clear hb2)
          (try clear hk)
          (try clear hi)
          refine hK.out _ _ trivial (fun hHeld => ?_)
          clear hK K
          refine norm_ (a' := ?_) ?_ ?_
          rotate_left
          · show Act.put _ (some 21) _ = _
            simp only [Act.put, List.setIfInBounds_toArray, List.set_cons_zero, List.set_cons_succ, i64_w, i32_w]
            rfl
          refine one_ (i := 12) (N := some 25) #[true, true, true, true, true, true, true, true, true, true, true, true, true, false, true, false] rfl rfl (one_of HT_.out (by kernel_rfl)) (by decide) (fun K hK => ?_)
          refine goes_ Try.func35 (by kernel_rfl) rfl #[.pointer (some ⟨gb189, 0, none⟩), .int .i64 4] (by rfl) rfl rfl argA ?_
          with_reducible refine (block_left_number.calls k gb189 l0 t194 t195 4 t196 t197 t198 w _ ?side1 ?side2 A4.out).mono ?_
          (case side1 => exact block_DecodeOp.ups1 HI189.out NB189_188.out NB189_199.out)
          (case side2 => exact upB3 HB.out (IsS60.ge HI189.out) GE188.out GE199.out)
          rintro e w42 ⟨rfl, hi, hb, hk⟩
          refine ⟨_, rfl, ?_⟩
          replace BK188 := Aside0.mk (KeepBut.blk hk (upK BK188.out) NB188_189.out (by simp))
          replace BK199 := Aside0.mk (KeepBut.blk hk (upK BK199.out) NB199_189.out (by simp))
          replace HB := Aside0.mk (hb)
          replace HI189 := Aside0.mk (hi)
          (try clear hb)
          (try clear hb2)
          (try clear hk)
          (try clear hi)
          refine hK.out _ _ trivial (fun hHeld => ?_)
          clear hK K
          refine norm_ (a' := ?_) ?_ ?_
          rotate_left
          · show Act.put _ (some 25) _ = _
            simp only [Act.put, List.setIfInBounds_toArray, List.set_cons_zero, List.set_cons_succ, i64_w, i32_w]
            rfl
          refine pure_ (i := 13) (N := some 26) (v := ?_) (a' := ?_) #[true, true, true, true, true, true, true, true, true, true, true, true, true, true, true, false] rfl rfl (any_of HT_.out (by kernel_rfl)) (fun _ _ _ h => h) (Or.inl ⟨by rfl, ?_⟩) ?_ ?_
          rotate_left
          · intro w'
            go_simp
            with_reducible rfl
          rotate_left
          · simp only [Act.put, List.setIfInBounds_toArray, List.set_cons_zero, List.set_cons_succ, i64_w, i32_w]
            rfl
          exact norm_ (by first | (simp only [putAll, Act.put, List.setIfInBounds_toArray, List.set_cons_zero, List.set_cons_succ]; done) | simp only [IntKind.wrap_u8, IntKind.wrap_u16, IntKind.wrap_u32, putAll, Act.put, List.setIfInBounds_toArray, List.set_cons_zero, List.set_cons_succ]) (hCont (gb199) _ ⟨(upK BK188.out), (upK BK199.out), GW199.out, GE199.out, NB189_199.out, NB199_189.out, NB188_199.out, NB199_188.out, (block_DecodeOp.ups1 HI189.out NB189_188.out NB189_199.out), (upB3 HB.out (IsS60.ge HI189.out) GE188.out GE199.out)⟩)
      · skip
        refine box_step ?hg (N := 6) ?hd (cs := #[.int .u8 0, .int .i64 0, .int .i64 0, .slice none 0 0, .slice none 0 0]) (t := 27) ?hr ?_; (case hd => rfl); (case hg => rfl); (case hr => first | (go_simp; done) | (go_simp; rfl))
        intro gb199 hg w39 hbox hb
        have BK199 := Aside0.mk (hbox)
        have GW199 := Aside0.mk ((by rw [hg]; exact (below_size (upB2 HB.out (IsS60.ge HI189.out) GE188.out)) : w.heap.size ≤ gb199))
        have GE199 := Aside0.mk ((by rw [hg]; exact (below_size (upB2 HB.out (IsS60.ge HI189.out) GE188.out)) : w.heap.size ≤ gb199))
        replace HB := Aside0.mk (below_step (upB2 HB.out (IsS60.ge HI189.out) GE188.out) hb)
        have NB188_199 := Aside0.mk ((by rw [hg]; exact Nat.ne_of_lt (blk_lt (upK BK188.out)) : gb188 ≠ gb199))
        have NB199_188 := Aside0.mk ((by rw [hg]; exact Nat.ne_of_gt (blk_lt (upK BK188.out)) : gb199 ≠ gb188))
        replace BK188 := Aside0.mk (blk_below (upK BK188.out) hb)
        have NB189_199 := Aside0.mk ((by rw [hg]; exact Nat.ne_of_lt (IsS60.lt (show IsS60 w _ gb189 l0 0 0 from block_DecodeOp.ups0 HI189.out NB189_188.out)) : gb189 ≠ gb199))
        have NB199_189 := Aside0.mk ((by rw [hg]; exact Nat.ne_of_gt (IsS60.lt (show IsS60 w _ gb189 l0 0 0 from block_DecodeOp.ups0 HI189.out NB189_188.out)) : gb199 ≠ gb189))
        replace HI189 := Aside0.mk (IsS60.below (block_DecodeOp.ups0 HI189.out NB189_188.out) hb)
        clear hb hbox hg
        refine hK.out _ _ trivial (fun hHeld => ?_)
        clear hK K
        refine norm_ (a' := ?_) ?_ ?_
        rotate_left
        · show Act.put _ (some 6) _ = _
          simp only [Act.put, List.setIfInBounds_toArray, List.set_cons_zero, List.set_cons_succ, i64_w, i32_w]
          rfl
        refine one_ (i := 3) (N := some 16) #[true, true, true, true, false, true, true, true, false, true, true, true, false, false, true, false] rfl rfl (one_of HT_.out (by kernel_rfl)) (by decide) (fun K hK => ?_)
        refine goes_ Try.func35 (by kernel_rfl) rfl #[.pointer (some ⟨gb189, 0, none⟩), .int .i64 1] (by rfl) rfl rfl argA ?_
        with_reducible refine (block_left_number.calls k gb189 l0 0 0 1 t190 t191 t192 w _ ?side1 ?side2 A2.out).mono ?_
        (case side1 => exact block_DecodeOp.ups1 HI189.out NB189_188.out NB189_199.out)
        (case side2 => exact upB3 HB.out (IsS60.ge HI189.out) GE188.out GE199.out)
        rintro e w40 ⟨rfl, hi, hb, hk⟩
        refine ⟨_, rfl, ?_⟩
        replace BK188 := Aside0.mk (KeepBut.blk hk (upK BK188.out) NB188_189.out (by simp))
        replace BK199 := Aside0.mk (KeepBut.blk hk (upK BK199.out) NB199_189.out (by simp))
        replace HB := Aside0.mk (hb)
        replace HI189 := Aside0.mk (hi)
        (try clear hb)
        (try clear hb2)
        (try clear hk)
        (try clear hi)
        refine hK.out _ _ trivial (fun hHeld => ?_)
        clear hK K
        refine norm_ (a' := ?_) ?_ ?_
        rotate_left
        · show Act.put _ (some 16) _ = _
          simp only [Act.put, List.setIfInBounds_toArray, List.set_cons_zero, List.set_cons_succ, i64_w, i32_w]
          rfl
        refine pure_ (i := 4) (N := some 17) (v := ?_) (a' := ?_) #[true, true, true, true, true, true, true, true, false, true, true, true, false, false, true, false] rfl rfl (any_of HT_.out (by kernel_rfl)) (fun _ _ _ h => h) (Or.inl ⟨by rfl, ?_⟩) ?_ ?_
        rotate_left
        · intro w'
          go_simp
          with_reducible rfl
        rotate_left
        · simp only [Act.put, List.setIfInBounds_toArray, List.set_cons_zero, List.set_cons_succ, i64_w, i32_w]
          rfl
        refine one_ (i := 8) (N := some 21) #[true, true, true, true, true, true, true, true, true, true, true, true, false, false, true, false] rfl rfl (one_of HT_.out (by kernel_rfl)) (by decide) (fun K hK => ?_)
        refine goes_ Try.func35 (by kernel_rfl) rfl #[.pointer (some ⟨gb189, 0, none⟩), .int .i64 4] (by rfl) rfl rfl argA ?_
        with_reducible refine (block_left_number.calls k gb189 l0 t191 t192 4 t193 t194 t195 w _ ?side1 ?side2 A3.out).mono ?_
        (case side1 => exact block_DecodeOp.ups1 HI189.out NB189_188.out NB189_199.out)
        (case side2 => exact upB3 HB.out (IsS60.ge HI189.out) GE188.out GE199.out)
        rintro e w41 ⟨rfl, hi, hb, hk⟩
        refine ⟨_, rfl, ?_⟩
        replace BK188 := Aside0.mk (KeepBut.blk hk (upK BK188.out) NB188_189.out (by simp))
        replace BK199 := Aside0.mk (KeepBut.blk hk (upK BK199.out) NB199_189.out (by simp))
        replace HB := Aside0.mk (hb)
        replace HI189 := Aside0.mk (hi)
        (try clear hb)
        (try clear hb2)
        (try clear hk)
        (try clear hi)
        refine hK.out _ _ trivial (fun hHeld => ?_)
        clear hK K
        refine norm_ (a' := ?_) ?_ ?_
        rotate_left
        · show Act.put _ (some 21) _ = _
          simp only [Act.put, List.setIfInBounds_toArray, List.set_cons_zero, List.set_cons_succ, i64_w, i32_w]
          rfl
        refine one_ (i := 12) (N := some 25) #[true, true, true, true, true, true, true, true, true, true, true, true, true, false, true, false] rfl rfl (one_of HT_.out (by kernel_rfl)) (by decide) (fun K hK => ?_)
        refine goes_ Try.func35 (by kernel_rfl) rfl #[.pointer (some ⟨gb189, 0, none⟩), .int .i64 4] (by rfl) rfl rfl argA ?_
        with_reducible refine (block_left_number.calls k gb189 l0 t194 t195 4 t196 t197 t198 w _ ?side1 ?side2 A4.out).mono ?_
        (case side1 => exact block_DecodeOp.ups1 HI189.out NB189_188.out NB189_199.out)
        (case side2 => exact upB3 HB.out (IsS60.ge HI189.out) GE188.out GE199.out)
        rintro e w42 ⟨rfl, hi, hb, hk⟩
        refine ⟨_, rfl, ?_⟩
        replace BK188 := Aside0.mk (KeepBut.blk hk (upK BK188.out) NB188_189.out (by simp))
        replace BK199 := Aside0.mk (KeepBut.blk hk (upK BK199.out) NB199_189.out (by simp))
        replace HB := Aside0.mk (hb)
        replace HI189 := Aside0.mk (hi)
        (try clear hb)
        (try clear hb2)
        (try clear hk)
        (try clear hi)
        refine hK.out _ _ trivial (fun hHeld => ?_)
        clear hK K
        refine norm_ (a' := ?_) ?_ ?_
        rotate_left
        · show Act.put _ (some 25) _ = _
          simp only [Act.put, List.setIfInBounds_toArray, List.set_cons_zero, List.set_cons_succ, i64_w, i32_w]
          rfl
        refine pure_ (i := 13) (N := some 26) (v := ?_) (a' := ?_) #[true, true, true, true, true, true, true, true, true, true, true, true, true, true, true, false] rfl rfl (any_of HT_.out (by kernel_rfl)) (fun _ _ _ h => h) (Or.inl ⟨by rfl, ?_⟩) ?_ ?_
        rotate_left
        · intro w'
          go_simp
          with_reducible rfl
        rotate_left
        · simp only [Act.put, List.setIfInBounds_toArray, List.set_cons_zero, List.set_cons_succ, i64_w, i32_w]
          rfl
        exact norm_ (by first | (simp only [putAll, Act.put, List.setIfInBounds_toArray, List.set_cons_zero, List.set_cons_succ]; done) | simp only [IntKind.wrap_u8, IntKind.wrap_u16, IntKind.wrap_u32, putAll, Act.put, List.setIfInBounds_toArray, List.set_cons_zero, List.set_cons_succ]) (hCont (gb199) _ ⟨(upK BK188.out), (upK BK199.out), GW199.out, GE199.out, NB189_199.out, NB199_189.out, NB188_199.out, NB199_188.out, (block_DecodeOp.ups1 HI189.out NB189_188.out NB189_199.out), (upB3 HB.out (IsS60.ge HI189.out) GE188.out GE199.out)⟩)
    rintro gb199 w43 ⟨h0_, h1_, h2_, h3_, h4_, h5_, h6_, h7_, h8_, h9_⟩
    have n0_ : Aside0 (w43.heap[gb188]? = some (.cells #[.int .u8 0, .int .i64 0, .int .i64 0, .slice none 0 0, .slice none 0 0] 27 (0, 0))) := ⟨h0_⟩
    have n1_ : Aside0 (w43.heap[gb199]? = some (.cells #[.int .u8 0, .int .i64 0, .int .i64 0, .slice none 0 0, .slice none 0 0] 27 (0, 0))) := ⟨h1_⟩
    have n2_ : Aside0 (w.heap.size ≤ gb199) := ⟨h2_⟩
    have n3_ : Aside0 (w.heap.size ≤ gb199) := ⟨h3_⟩
    have n4_ : Aside0 (gb189 ≠ gb199) := ⟨h4_⟩
    have n5_ : Aside0 (gb199 ≠ gb189) := ⟨h5_⟩
    have n6_ : Aside0 (gb188 ≠ gb199) := ⟨h6_⟩
    have n7_ : Aside0 (gb199 ≠ gb188) := ⟨h7_⟩
    have n8_ : Aside0 (IsS60 w w43 gb189 l0 t197 t198) := ⟨h8_⟩
    have n9_ : Aside0 (Below w.heap.size w w43) := ⟨h9_⟩
    clear BK188
    clear HI189
    clear HB
    clear h0_ h1_ h2_ h3_ h4_ h5_ h6_ h7_ h8_ h9_
    have BK188 := n0_
    have BK199 := n1_
    have GW199 := n2_
    have GE199 := n3_
    have NB189_199 := n4_
    have NB199_189 := n5_
    have NB188_199 := n6_
    have NB199_188 := n7_
    have HI189 := n8_
    have HB := n9_
    clear n0_ n1_ n2_ n3_ n4_ n5_ n6_ n7_ n8_ n9_
    have hHeld := trivial
    refine norm_ (a' := ?_) ?_ ?_
    rotate_left
    · simp only [putAll, Act.put, List.setIfInBounds_toArray, List.set_cons_zero, List.set_cons_succ]
      rfl
    refine one_ (i := 15) (N := none) #[true, true, true, true, true, true, true, true, true, true, true, true, true, true, true, true] rfl rfl (one_of HT_.out (by kernel_rfl)) (by decide) (fun K hK => ?_)
    have hs44 : w43.cell? ⟨gb199, 0, none⟩ = some (.int .u8 0) := (blk_cell BK199.out 0).trans rfl
    have hfs44 := blk_frozen BK199.out 0
    have hns44_0 := NB188_199.out
    have hms44_0 := NB199_188.out
    have hs45 : w43.cell? ⟨gb199, 1, none⟩ = some (.int .i64 0) := (blk_cell BK199.out 1).trans rfl
    have hfs45 := blk_frozen BK199.out 1
    have hns45_0 := NB188_199.out
    have hms45_0 := NB199_188.out
    have hs46 : w43.cell? ⟨gb199, 2, none⟩ = some (.int .i64 0) := (blk_cell BK199.out 2).trans rfl
    have hfs46 := blk_frozen BK199.out 2
    have hns46_0 := NB188_199.out
    have hms46_0 := NB199_188.out
    have hs47 : w43.cell? ⟨gb199, 3, none⟩ = some (.slice none 0 0) := (blk_cell BK199.out 3).trans rfl
    have hfs47 := blk_frozen BK199.out 3
    have hns47_0 := NB188_199.out
    have hms47_0 := NB199_188.out
    have hs48 : w43.cell? ⟨gb199, 4, none⟩ = some (.slice none 0 0) := (blk_cell BK199.out 4).trans rfl
    have hfs48 := blk_frozen BK199.out 4
    have hns48_0 := NB188_199.out
    have hms48_0 := NB199_188.out
    refine skip_ (w1 := ?_) (by rfl) rfl ?_ ?_
    rotate_left
    · go_simp
      rfl
    refine hK.out _ _ trivial (fun hHeld => ?_)
    clear hK K
    refine done_ (done_of HT_.out (by kernel_rfl)) ?_
    try go_wp2_with (first | ((with_reducible refine gate_callee (f := 36) rfl ?_); refine goesL_ (some 30) rfl rfl Try.func36 (by kernel_rfl) rfl #[.pointer (some ⟨gb189, 0, none⟩)] rfl argA ?_; (with_reducible refine (block_left_text.calls k gb189 l0 t197 t198 t200 t203 t204 w _ ?side1 ?side2 A5.out).mono ?_); (case side1 => exact block_DecodeOp.ups1 HI189.out NB189_188.out NB189_199.out); (case side2 => exact upB3 HB.out (IsS60.ge HI189.out) GE188.out GE199.out); rintro e w49 ⟨v201, rfl, ho0, hi, hb, hk⟩; refine ⟨_, rfl, ?_⟩; replace BK188 := Aside0.mk (KeepBut.blk hk (g' := gb188) (o := .cells #[.int .u8 0, .int .i64 0, .int .i64 0, .slice none 0 0, .slice none 0 0] 27 (0, 0)) (by refine upK ?_; refine blk_far ?_ NB188_199.out _; refine upK ?_; refine blk_far ?_ NB188_199.out _; refine upK ?_; refine blk_far ?_ NB188_199.out _; refine upK ?_; refine blk_far ?_ NB188_199.out _; refine upK ?_; refine blk_far ?_ NB188_199.out _; refine upK ?_; exact BK188.out) NB188_189.out (by simp)); replace BK199 := Aside0.mk (KeepBut.blk hk (g' := gb199) (o := .cells #[.int .u8 ((t190) % 256), .int .i64 t193, .int .i64 t196, .slice none 0 0, .slice none 0 0] 27 (0, 0)) (by refine upK ?_; refine blk_put (cs := #[.int .u8 ((t190) % 256), .int .i64 t193, .int .i64 t196, .slice none 0 0, .slice none 0 0]) ?_ 4 _ rfl; refine upK ?_; refine blk_put (cs := #[.int .u8 ((t190) % 256), .int .i64 t193, .int .i64 t196, .slice none 0 0, .slice none 0 0]) ?_ 3 _ rfl; refine upK ?_; refine blk_put (cs := #[.int .u8 ((t190) % 256), .int .i64 t193, .int .i64 0, .slice none 0 0, .slice none 0 0]) ?_ 2 _ rfl; refine upK ?_; refine blk_put (cs := #[.int .u8 ((t190) % 256), .int .i64 0, .int .i64 0, .slice none 0 0, .slice none 0 0]) ?_ 1 _ rfl; refine upK ?_; refine blk_put (cs := #[.int .u8 0, .int .i64 0, .int .i64 0, .slice none 0 0, .slice none 0 0]) ?_ 0 _ rfl; refine upK ?_; exact BK199.out) NB199_189.out (by simp)); have HO202 := Aside0.mk (Kd.R_lower ho0 (below_size (upB3 HB.out (IsS60.ge HI189.out) GE188.out GE199.out))); replace HB := Aside0.mk (hb); replace HI189 := Aside0.mk (hi); (try clear hb); (try clear hb2); (try clear hk); (try clear hi); (try clear ho0); obtain ⟨Ao50, co50, eo50⟩ := Kd.R_slice HO202.out; subst eo50; have hnb51 := NB199_188.out; have hnc51 := NB188_199.out; have hnb52 := NB199_189.out; have hnc52 := NB189_199.out; obtain ⟨hcz53_0, hcz53_1, hcz53_2, hcz53_3, hcz53_4, hfz53_0, hfz53_1, hfz53_2, hfz53_3, hfz53_4⟩ := cells5 BK199.out) | ((with_reducible refine gate_callee (f := 36) rfl ?_); refine goesL_ (some 35) rfl rfl Try.func36 (by kernel_rfl) rfl #[.pointer (some ⟨gb189, 0, none⟩)] rfl argA ?_; (with_reducible refine (block_left_text.calls k gb189 l0 t203 t204 t205 t208 t209 w _ ?side1 ?side2 A6.out).mono ?_); (case side1 => exact block_DecodeOp.ups1 HI189.out NB189_188.out NB189_199.out); (case side2 => exact upB3 HB.out (IsS60.ge HI189.out) GE188.out GE199.out); rintro e w54 ⟨v206, rfl, ho0, hi, hb, hk⟩; refine ⟨_, rfl, ?_⟩; replace BK188 := Aside0.mk (KeepBut.blk hk (g' := gb188) (o := .cells #[.int .u8 0, .int .i64 0, .int .i64 0, .slice none 0 0, .slice none 0 0] 27 (0, 0)) (by refine upK ?_; refine blk_far ?_ NB188_199.out _; refine upK ?_; exact BK188.out) NB188_189.out (by simp)); have HO207 := Aside0.mk (Kd.R_lower (Kd.R_new' ho0 (Kd.R_lt (by refine upR ?_; exact (fR1 (Kd.R_types HO202.out BK199.out (by decide)))))) (below_size (upB3 HB.out (IsS60.ge HI189.out) GE188.out GE199.out))); replace HO202 := Aside0.mk (Kd.R_mono (Kd.R_told (Kd.R_oldK (IsS60.apart (show IsS60 w _ gb189 l0 t203 t204 from block_DecodeOp.ups1 HI189.out NB189_188.out NB189_199.out) (by refine upR ?_; exact (fR1 (Kd.R_types HO202.out BK199.out (by decide)))) (by decide)) hk) (Kd.R_base ho0)) (fun _ h_ => h_.1)); replace BK199 := Aside0.mk (KeepBut.blk hk (g' := gb199) (o := .cells #[.int .u8 ((t190) % 256), .int .i64 t193, .int .i64 t196, .slice Ao50 t200.length co50, .slice none 0 0] 27 (0, 0)) (by refine upK ?_; refine blk_put (cs := #[.int .u8 ((t190) % 256), .int .i64 t193, .int .i64 t196, .slice none 0 0, .slice none 0 0]) ?_ 3 _ rfl; refine upK ?_; exact BK199.out) NB199_189.out (by simp)); replace HB := Aside0.mk (hb); replace HI189 := Aside0.mk (hi); (try clear hb); (try clear hb2); (try clear hk); (try clear hi); (try clear ho0); obtain ⟨Ao55, co55, eo55⟩ := Kd.R_slice HO207.out; subst eo55; obtain ⟨hcz56_0, hcz56_1, hcz56_2, hcz56_3, hcz56_4, hfz56_0, hfz56_1, hfz56_2, hfz56_3, hfz56_4⟩ := cells5 BK199.out) | ((with_reducible refine gate_callee (f := 19) rfl ?_); refine goesL_ (some 40) rfl rfl Try.func19 (by kernel_rfl) rfl #[.agg #[.int .u8 ((t190) % 256), .int .i64 t193, .int .i64 t196, .slice Ao50 t200.length co50, .slice Ao55 t205.length co55]] rfl argA ?_; (with_reducible refine (block_Form.calls ((t190) % 256) t193 t196 _ _ t200 _ _ t205 t210 _ ?side1 ?side2 ?side3 ?side4 A7.out).mono ?_); (case side1 => refine (Kd.R_reads' (e := 5) (base := w.heap.size) (ok := fun k_ => (True ∧ some k_ ≠ (.slice Ao55 t205.length co55 : Value).ownBlock)) (n := t200.length) (c := co50) ?_).2.2; exact (by refine upR ?_; exact (fR1 (Kd.R_types HO202.out BK199.out (by decide))))); (case side2 => exact (Kd.R_reads' HO202.out).2.1); (case side3 => refine (Kd.R_reads' (e := 5) (base := w.heap.size) (ok := fun k_ => (True ∧ some k_ ≠ (.slice Ao50 t200.length co50 : Value).ownBlock)) (n := t205.length) (c := co55) ?_).2.2; exact (by refine upR ?_; exact (fR1 (Kd.R_types HO207.out BK199.out (by decide))))); (case side4 => exact (Kd.R_reads' HO207.out).2.1); rintro e w57 ⟨rfl, hb⟩; refine ⟨_, rfl, ?_⟩; replace HO202 := Aside0.mk (Kd.R_below (by refine upR ?_; exact (fR1 (Kd.R_types HO202.out BK199.out (by decide)))) hb); replace HO207 := Aside0.mk (Kd.R_below (by refine upR ?_; exact (fR1 (Kd.R_types HO207.out BK199.out (by decide)))) hb); replace BK188 := Aside0.mk (blk_below (g := gb188) (o := .cells #[.int .u8 0, .int .i64 0, .int .i64 0, .slice none 0 0, .slice none 0 0] 27 (0, 0)) (by refine upK ?_; refine blk_far ?_ NB188_199.out _; refine upK ?_; exact BK188.out) hb); replace BK199 := Aside0.mk (blk_below (g := gb199) (o := .cells #[.int .u8 ((t190) % 256), .int .i64 t193, .int .i64 t196, .slice Ao50 t200.length co50, .slice Ao55 t205.length co55] 27 (0, 0)) (by refine upK ?_; refine blk_put (cs := #[.int .u8 ((t190) % 256), .int .i64 t193, .int .i64 t196, .slice Ao50 t200.length co50, .slice none 0 0]) ?_ 4 _ rfl; refine upK ?_; exact BK199.out) hb); replace HB := Aside0.mk (below_step (upB3 HB.out (IsS60.ge HI189.out) GE188.out GE199.out) hb); replace HI189 := Aside0.mk (IsS60.below (show IsS60 w (w54.setCell ⟨gb199, 4, none⟩ (.slice Ao55 t205.length co55)) gb189 l0 t208 t209 from block_DecodeOp.ups1 HI189.out NB189_188.out NB189_199.out) hb); (try clear hb); (try clear hb2); (try clear hk); (try clear hi)) | ((with_reducible refine gate_callee (f := 37) rfl ?_); refine goesL_ (some 41) rfl rfl Try.func37 (by kernel_rfl) rfl #[.pointer (some ⟨gb189, 0, none⟩), .int .i64 t210] rfl argA ?_; (with_reducible refine (block_reader_end.calls gb189 l0 t208 t209 t210 t211 t212 t213 t214 w _ ?side1 ?side2 A8.out).mono ?_); (case side1 => exact block_DecodeOp.ups1 HI189.out NB189_188.out NB189_199.out); (case side2 => exact upB3 HB.out (IsS60.ge HI189.out) GE188.out GE199.out); rintro e w58 ⟨rfl, hi, hb, hk⟩; refine ⟨_, rfl, ?_⟩; replace BK188 := Aside0.mk (KeepBut.blk hk (upK BK188.out) NB188_189.out (by simp)); replace BK199 := Aside0.mk (KeepBut.blk hk (upK BK199.out) NB199_189.out (by simp)); replace HO202 := Aside0.mk (Kd.R_mono (Kd.R_keep (IsS62.apart (show IsS62 w _ gb189 l0 t208 t209 from block_DecodeOp.ups1 HI189.out NB189_188.out NB189_199.out) (upR HO202.out) (by decide)) hk (fun _ h => h.2)) (fun _ h => h.1)); replace HO207 := Aside0.mk (Kd.R_mono (Kd.R_keep (IsS62.apart (show IsS62 w _ gb189 l0 t208 t209 from block_DecodeOp.ups1 HI189.out NB189_188.out NB189_199.out) (upR HO207.out) (by decide)) hk (fun _ h => h.2)) (fun _ h => h.1)); replace HB := Aside0.mk (hb); replace HI189 := Aside0.mk (hi); (try clear hb); (try clear hb2); (try clear hk); (try clear hi); have hnb59 := NB188_189.out; have hnc59 := NB189_188.out; obtain ⟨hcz60_0, hcz60_1, hcz60_2, hcz60_3, hcz60_4, hfz60_0, hfz60_1, hfz60_2, hfz60_3, hfz60_4⟩ := cells5 BK188.out))
    refine bodyPost_ret (results_ctt rfl _ _ gb188 27 #[.int .u8 0, .int .i64 0, .int .i64 0, .slice none 0 0, .slice none 0 0] (0, 0) _ rfl (by refine upK ?_; refine blk_put (cs := #[.int .u8 0, .int .i64 0, .int .i64 0, .slice none 0 0, .slice none 0 0]) ?_ 4 _ rfl; refine upK ?_; refine blk_put (cs := #[.int .u8 0, .int .i64 0, .int .i64 0, .slice none 0 0, .slice none 0 0]) ?_ 3 _ rfl; refine upK ?_; refine blk_put (cs := #[.int .u8 0, .int .i64 0, .int .i64 0, .slice none 0 0, .slice none 0 0]) ?_ 2 _ rfl; refine upK ?_; refine blk_put (cs := #[.int .u8 0, .int .i64 0, .int .i64 0, .slice none 0 0, .slice none 0 0]) ?_ 1 _ rfl; refine upK ?_; refine blk_put (cs := #[.int .u8 0, .int .i64 0, .int .i64 0, .slice none 0 0, .slice none 0 0]) ?_ 0 _ rfl; refine upK ?_; exact BK188.out) Try.underlying27 rfl (by kernel_rfl)) rfl ?_
    exact ⟨_, _, by first | rfl | (simp [errW_none, errW_some] <;> rfl) | (simp [*, errW_none, errW_some] <;> rfl), by first | exact Kd.R_nil _ _ _ _ _ | exact Kd.N_nil _ _ _ _ _ | exact Kd.V_nil _ _ _ _ _ | exact Kd.Q_nil _ _ _ _ _ | exact Kd.S_nil _ _ _ _ _, by first | exact Kd.R_nil _ _ _ _ _ | exact Kd.N_nil _ _ _ _ _ | exact Kd.V_nil _ _ _ _ _ | exact Kd.Q_nil _ _ _ _ _ | exact Kd.S_nil _ _ _ _ _, upB3 HB.out (IsS60.ge HI189.out) GE188.out GE199.out⟩

end Go.Proofs.Ytogjpilkgghidaa.F
