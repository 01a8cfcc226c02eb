-- Written by ext (this session's own program).
import Derived.Test.YtbpffhdecbgmpaaFx0
namespace Go.Proofs.Ytbpffhdecbgmpaa.F
open Go.RowKit Go.Proofs.YtbpffhdecbgmpaaW.PrintWords Go.Proofs.YtbpffhdecbgmpaaW.PrintLast Go.Proofs.YtbpffhdecbgmpaaW.PrintMore
attribute [local go_sem] max2_int min2_int max_two min_two max_three min_three max_four min_four   -- for this text's walks alone
set_option linter.unusedVariables false
set_option linter.unusedSimpArgs false

/-! ### crc_Join: function 19 -/
def crc_Join.tm : List Int → Int → Int → Int
  | [], _, out => out
  | c :: M, s, out => if s = 0 then out else if Go.bits .and .u32 s 1 = 1 then crc_Join.tm M (s / 2) (Go.bits .xor .u32 out c) else crc_Join.tm M (s / 2) out
theorem crc_Join.tm_zero (M : List Int) (out : Int) : crc_Join.tm M 0 out = out := by
  cases M with
  | nil => rfl
  | cons c M => rw [crc_Join.tm, if_pos rfl]
set_option maxHeartbeats 4000000 in
theorem crc_Join.times (g : Nat) (M : List Int) (s : Int) (w : World) (hM : M.length = 32) (hg : w.heap[g]? = some (.cells (nums .u32 M).toArray 45 (0, 0))) (hs : 0 ≤ s ∧ s < 4294967296) :
    Calls Try.prog 26 #[.pointer (some ⟨g, 0, none⟩), .int .u32 s] w fun e w' => e = .returned (.int .u32 (crc_Join.tm M s 0)) ∧ Drawn0 w w' := by
  have HG := Aside0.mk hg
  clear hg
  go_enter Try.func26, Try.ntmps26
  go_wp2
  go_loopg [1, 5, 6] 32 (fun kq v1 v5 v6 w' => ∃ (i : Nat) (x o : Int), v1 = .int .u32 x ∧ v5 = .int .u32 o ∧ v6 = .int .i64 (i : Int) ∧ Aside0 (i + kq = 32) ∧ Aside0 (0 ≤ x ∧ x < 2 ^ kq) ∧ Aside0 (crc_Join.tm (M.drop i) x o = crc_Join.tm M s 0) ∧ Drawn0 w w')
  case atStart => exact ⟨0, s, 0, rfl, rfl, rfl, ⟨rfl⟩, ⟨hs⟩, ⟨rfl⟩, Drawn0.refl _⟩
  case round =>
    obtain ⟨i, x, o, rfl, rfl, rfl, HI, HX, HT, ⟨m1, rfl⟩⟩ := hrel
    by_cases c1 : x = 0
    · have c1b : (x == 0) = true := beq_iff_eq.mpr c1
      have c1c : (x != 0) = false := by simp [c1]
      subst c1
      have hr : o = crc_Join.tm M s 0 := by rw [← HT.out, crc_Join.tm_zero]
      go_wp2
      go_ret
      exact ⟨by first | rfl | (simp [hr]; done), Drawn0.refl _ |>.step _⟩
    · have c1b : (x == 0) = false := beq_eq_false_iff_ne.mpr c1
      have c1c : (x != 0) = true := bne_iff_ne.mpr c1
      cases gk with
      | zero => exact absurd HX.out (by omega)
      | succ k1 =>
        have hi : i < 32 := by have := HI.out; omega
        have hi0 : (0 : Int) ≤ (i : Int) := by omega
        have hi1 : (i : Int) < 32 := by omega
        have hiM : i < M.length := by omega
        obtain ⟨mi, hmi⟩ : ∃ y, M[i] = y := ⟨_, rfl⟩
        have hcell : w.cell? ⟨g, i, none⟩ = some (.int .u32 mi) := by
          rw [cell_of_row w g i _ _ _ HG.out]
          simp [nums, hiM, hmi]
        have hd : M.drop i = mi :: M.drop (i + 1) := by rw [List.drop_eq_getElem_cons hiM, hmi]
        have hx2 : 0 ≤ x / 2 ∧ x / 2 < 2 ^ k1 := by
          have h := HX.out
          rw [Int.pow_succ] at h
          omega
        by_cases c2 : Go.bits .and .u32 x 1 = 1
        · have c2b : (Go.bits .and .u32 x 1 == 1) = true := beq_iff_eq.mpr c2
          go_wp2
          go_roundg k1
          case measure => omega
          case rel => exact ⟨i + 1, x / 2, Go.bits .xor .u32 o mi, rfl, rfl, rfl, ⟨by have := HI.out; omega⟩, ⟨hx2⟩, ⟨by have h := HT.out; rw [hd, crc_Join.tm, if_neg c1, if_pos c2] at h; exact h⟩, Drawn0.refl _ |>.step _⟩
        · have c2b : (Go.bits .and .u32 x 1 == 1) = false := beq_eq_false_iff_ne.mpr c2
          go_wp2
          go_roundg k1
          case measure => omega
          case rel => exact ⟨i + 1, x / 2, o, rfl, rfl, rfl, ⟨by have := HI.out; omega⟩, ⟨hx2⟩, ⟨by have h := HT.out; rw [hd, crc_Join.tm, if_neg c1, if_neg c2] at h; exact h⟩, Drawn0.refl _ |>.step _⟩

def crc_Join.Z : Array Value := (nums .u32 (List.replicate 32 0)).toArray
theorem crc_Join.inf : (Try.prog.info? 45).map (·.size) = some 32 := by kernel_rfl
theorem crc_Join.sz {L : List Int} (h : L.length = 32) : (Try.prog.info? 45).map (·.size) = some (nums .u32 L).toArray.size := by
  rw [crc_Join.inf]
  simp [nums, h]
theorem crc_Join.one (L : List Int) : (nums .u32 L).toArray.all (·.oneCell') = true := by
  simp [nums, Value.oneCell']
def crc_Join.tw (M : List Int) : List Int := M.map fun x => crc_Join.tm M x 0
theorem crc_Join.tw_length (M : List Int) : (crc_Join.tw M).length = M.length := by simp [crc_Join.tw]
def crc_Join.part (M : List Int) (i : Nat) : List Int := (crc_Join.tw M).take i ++ List.replicate (32 - i) 0
theorem crc_Join.part_length {M : List Int} (hM : M.length = 32) {i : Nat} (hi : i ≤ 32) : (crc_Join.part M i).length = 32 := by
  simp [crc_Join.part, crc_Join.tw_length, hM]
  omega
theorem crc_Join.part_set {M : List Int} (hM : M.length = 32) {i : Nat} (hi : i < 32) (h : i < M.length) : (crc_Join.part M i).set i (crc_Join.tm M M[i] 0) = crc_Join.part M (i + 1) := by
  have ht : i < (crc_Join.tw M).length := by rw [crc_Join.tw_length]; omega
  have hl : ((crc_Join.tw M).take i).length = i := by rw [List.length_take]; omega
  have e : (crc_Join.tw M)[i] = crc_Join.tm M M[i] 0 := by simp [crc_Join.tw]
  unfold crc_Join.part
  rw [List.set_append_right _ _ (by omega), hl, Nat.sub_self, show 32 - i = (32 - (i + 1)) + 1 by omega, List.replicate_succ, List.set_cons_zero, List.take_succ_eq_append_getElem ht, e]
  simp
theorem crc_Join.below_row {B g : Nat} {a w : World} {cs : Array Value} (h : Below B a w) (hg : B ≤ g) : Below B a (w.setRow g cs) :=
  h.trans ⟨rfl, rfl, rfl, by simp, fun k hk => setRow_other w g k cs (by omega)⟩
theorem crc_Join.set_nums (L : List Int) (i : Nat) (x : Int) : (nums .u32 L).toArray.setIfInBounds i (.int .u32 x) = (nums .u32 (L.set i x)).toArray := by
  simp [nums, List.map_set]
set_option maxHeartbeats 4000000 in
theorem crc_Join.twice (g : Nat) (M : List Int) (w : World) (hM : M.length = 32) (hb : ∀ x ∈ M, 0 ≤ x ∧ x < 4294967296) (hg : w.heap[g]? = some (.cells (nums .u32 M).toArray 45 (0, 0))) :
    Calls Try.prog 27 #[.pointer (some ⟨g, 0, none⟩)] w fun e w' => e = .returned (.agg (nums .u32 (crc_Join.tw M)).toArray) ∧ Below w.heap.size w w' := by
  have HG := Aside0.mk hg
  have HB := Aside0.mk (Below.refl w.heap.size w)
  have hgw := Aside0.mk (blk_lt hg)
  clear hg
  have hu := Try.underlying45
  go_enter Try.func27, Try.ntmps27
  go_wp2_with (first | ((with_reducible refine gate_dst (N := 2) rfl ?_); refine box_event ?hg (N := 2) ?hd (cs := crc_Join.Z) (t := 45) ?hr ?_; (case hd => rfl); (case hg => rfl); (case hr => first | (go_simp; done) | (go_simp; rfl)); intro b2 hg2 w1 hbox2 hb2; have B2 := Aside0.mk hbox2; have G2 := Aside0.mk ((by rw [hg2]; exact (below_size (upB0 HB.out))) : w.heap.size ≤ b2); replace HG := Aside0.mk (blk_below (upK HG.out) hb2); replace HB := Aside0.mk (below_step (upB0 HB.out) hb2); clear hbox2 hb2 hg2) | ((with_reducible refine gate_dst (N := 3) rfl ?_); refine box_event ?hg (N := 3) ?hd (cs := crc_Join.Z) (t := 45) ?hr ?_; (case hd => rfl); (case hg => rfl); (case hr => first | (go_simp; done) | (go_simp; rfl)); intro b3 hg3 w2 hbox3 hb3; have B3 := Aside0.mk hbox3; have G3 := Aside0.mk ((by rw [hg3]; exact (below_size (upB0 HB.out))) : w.heap.size ≤ b3); have N23 := Aside0.mk ((by rw [hg3]; exact Nat.ne_of_lt (blk_lt (upK B2.out))) : b2 ≠ b3); replace HG := Aside0.mk (blk_below (upK HG.out) hb3); replace B2 := Aside0.mk (blk_below (upK B2.out) hb3); replace HB := Aside0.mk (below_step (upB0 HB.out) hb3); clear hbox3 hb3 hg3))
  have B3' : Aside0 (w2.heap[b3]? = some (.cells (nums .u32 (crc_Join.part M 0)).toArray 45 (0, 0))) := B3
  clear B3
  go_loopg [7] 32 (fun kq v7 w' => ∃ (i : Nat), v7 = .int .i64 (i : Int) ∧ Aside0 (i + kq = 32) ∧ Aside0 (w'.heap[g]? = some (.cells (nums .u32 M).toArray 45 (0, 0))) ∧ Aside0 (w'.heap[b2]? = some (.cells crc_Join.Z 45 (0, 0))) ∧ Aside0 (w'.heap[b3]? = some (.cells (nums .u32 (crc_Join.part M i)).toArray 45 (0, 0))) ∧ Aside0 (Below w.heap.size w w'))
  case atStart => exact ⟨0, rfl, ⟨rfl⟩, HG, B2, B3', HB⟩
  case round =>
    clear HG B2 B3' HB
    obtain ⟨i, rfl, HI, HG, B2, B3, HB⟩ := hrel
    cases gk with
    | zero =>
      have hi : i = 32 := by have := HI.out; omega
      subst hi
      have hpart : crc_Join.part M 32 = crc_Join.tw M := by
        unfold crc_Join.part
        rw [List.take_of_length_le (by rw [crc_Join.tw_length]; omega)]
        simp
      rw [hpart] at B3
      have hl := crc_Join.tw_length M
      rw [hM] at hl
      go_wp2_with (first | ((with_reducible refine gate_dst (N := 19) rfl ?_); refine wpList_load_row rfl 45 (.tmp 3) rfl b3 rfl 45 _ (0, 0) (.array 32 23) B3.out Try.underlying45 rfl (crc_Join.sz hl) ?_) | (refine wpList_store_row rfl 45 (.tmp 2) (.tmp 19) rfl b2 _ rfl rfl 45 _ B2.out (crc_Join.sz hl) (by simp [crc_Join.Z, nums, hl]) (crc_Join.one _) ?_))
      (try simp only [Exit.inBlock, Exit.then])
      refine bodyPost_ret (results_cell_row rfl _ _ b2 45 _ (0, 0) (.array 32 23) rfl (setRow_heap wr b2 _ _ _ _ B2.out) Try.underlying45 rfl (crc_Join.sz hl)) rfl ?_
      exact ⟨rfl, crc_Join.below_row HB.out G2.out⟩
    | succ k1 =>
      have hi : i < 32 := by have := HI.out; omega
      have hiM : i < M.length := by omega
      have hi0 : (0 : Int) ≤ (i : Int) := by omega
      have hi1 : (i : Int) < 32 := by omega
      obtain ⟨mi, hmi⟩ : ∃ y, M[i] = y := ⟨_, rfl⟩
      have hcell : wr.cell? ⟨g, i, none⟩ = some (.int .u32 mi) := by
        rw [cell_of_row wr g i _ _ _ HG.out]
        simp [nums, hiM, hmi]
      have hpl := crc_Join.part_length hM (Nat.le_of_lt hi)
      have hcz : wr.cell? ⟨b3, i, none⟩ = some (.int .u32 ((crc_Join.part M i)[i]'(by omega))) := by
        rw [cell_of_row wr b3 i _ _ _ B3.out]
        simp [nums, hpl, hi]
      have hfz : wr.frozen? ⟨b3, i, none⟩ = false := frozen_of_row wr b3 i _ _ B3.out
      have hmb := hb mi (by rw [← hmi]; exact List.getElem_mem hiM)
      go_wp2_with (fail)
      go_quiet (fail)
      go_wp2_with (first | ((with_reducible refine gate_callee (f := 26) rfl ?_); refine goesL_ (some 16) rfl rfl Try.func26 (by kernel_rfl) rfl #[.pointer (some ⟨g, 0, none⟩), .int .u32 mi] rfl argA ?_; (refine (crc_Join.times g M mi _ hM (upK HG.out) hmb).mono ?_); rintro e w' ⟨rfl, ⟨nd, rfl⟩⟩; refine ⟨_, rfl, ?_⟩))
      go_roundg k1
      case measure => omega
      case rel =>
        refine ⟨i + 1, rfl, ⟨by have := HI.out; omega⟩, ⟨?_⟩, ⟨?_⟩, ⟨?_⟩, ⟨Below.setCell (upB0 HB.out) G3.out _⟩⟩
        · rw [heap_setCell_other _ _ _ _ (by have := hgw.out; have := G3.out; show g ≠ b3; omega)]
          exact upK HG.out
        · rw [heap_setCell_other _ _ _ _ N23.out]
          exact upK B2.out
        · have h3 := heap_setCell_same _ b3 i _ _ (.int .u32 (crc_Join.tm M mi 0)) (blk_drewN B3.out (nq + nd))
          rw [crc_Join.set_nums, ← hmi, crc_Join.part_set hM hi hiM] at h3
          rw [← hmi]
          exact h3
def crc_Join.zl : List Int := 2197175160 :: (List.range 31).map (fun i => (2 : Int) ^ i)
def crc_Join.zp (i : Nat) : List Int := crc_Join.zl.take i ++ List.replicate (32 - i) 0
theorem crc_Join.zl_length : crc_Join.zl.length = 32 := rfl
theorem crc_Join.zp_length {i : Nat} (hi : i ≤ 32) : (crc_Join.zp i).length = 32 := by
  simp [crc_Join.zp, crc_Join.zl_length]
  omega
theorem crc_Join.zp_set {i : Nat} (h0 : 0 < i) (hi : i < 32) : (crc_Join.zp i).set i ((2 : Int) ^ (i - 1)) = crc_Join.zp (i + 1) := by
  have ht : i < crc_Join.zl.length := hi
  have hl : (crc_Join.zl.take i).length = i := by rw [List.length_take]; omega
  have e : crc_Join.zl[i] = (2 : Int) ^ (i - 1) := by
    obtain ⟨j, rfl⟩ : ∃ j, i = j + 1 := ⟨i - 1, by omega⟩
    simp [crc_Join.zl]
  unfold crc_Join.zp
  rw [List.set_append_right _ _ (by omega), hl, Nat.sub_self, show 32 - i = (32 - (i + 1)) + 1 by omega, List.replicate_succ, List.set_cons_zero, List.take_succ_eq_append_getElem ht, e]
  simp
set_option maxHeartbeats 4000000 in
theorem crc_Join.zero (w : World) : Calls Try.prog 25 #[] w fun e w' => e = .returned (.agg (nums .u32 crc_Join.zl).toArray) ∧ Below w.heap.size w w' := by
  have HB := Aside0.mk (Below.refl w.heap.size w)
  have hu := Try.underlying45
  go_enter Try.func25, Try.ntmps25
  go_wp2_with (first | ((with_reducible refine gate_dst (N := 0) rfl ?_); refine box_event ?hg (N := 0) ?hd (cs := crc_Join.Z) (t := 45) ?hr ?_; (case hd => rfl); (case hg => rfl); (case hr => first | (go_simp; done) | (go_simp; rfl)); intro b2 hg2 w1 hbox2 hb2; have B2 := Aside0.mk hbox2; have G2 := Aside0.mk ((by rw [hg2]; exact (below_size (upB0 HB.out))) : w.heap.size ≤ b2); replace HB := Aside0.mk (below_step (upB0 HB.out) hb2); clear hbox2 hb2 hg2) | ((with_reducible refine gate_dst (N := 1) rfl ?_); refine box_event ?hg (N := 1) ?hd (cs := crc_Join.Z) (t := 45) ?hr ?_; (case hd => rfl); (case hg => rfl); (case hr => first | (go_simp; done) | (go_simp; rfl)); intro b3 hg3 w2 hbox3 hb3; have B3 := Aside0.mk hbox3; have G3 := Aside0.mk ((by rw [hg3]; exact (below_size (upB0 HB.out))) : w.heap.size ≤ b3); have N23 := Aside0.mk ((by rw [hg3]; exact Nat.ne_of_lt (blk_lt (upK B2.out))) : b2 ≠ b3); replace B2 := Aside0.mk (blk_below (upK B2.out) hb3); replace HB := Aside0.mk (below_step (upB0 HB.out) hb3); clear hbox3 hb3 hg3) | (refine wpList_store_row rfl 45 (.tmp 1) (.tmp 3) rfl b3 (nums .u32 (crc_Join.zp 1)).toArray rfl rfl 45 _ B3.out (crc_Join.sz (crc_Join.zp_length (by decide))) (by simp [crc_Join.Z, nums, crc_Join.zp_length]) (crc_Join.one _) ?_))
  have B3' : Aside0 ((w2.setRow b3 (nums .u32 (crc_Join.zp 1)).toArray).heap[b3]? = some (.cells (nums .u32 (crc_Join.zp 1)).toArray 45 (0, 0))) := ⟨setRow_heap _ _ _ _ _ _ B3.out⟩
  have B2' : Aside0 ((w2.setRow b3 (nums .u32 (crc_Join.zp 1)).toArray).heap[b2]? = some (.cells crc_Join.Z 45 (0, 0))) := ⟨(setRow_other _ _ _ _ N23.out).trans B2.out⟩
  have HB' : Aside0 (Below w.heap.size w (w2.setRow b3 (nums .u32 (crc_Join.zp 1)).toArray)) := ⟨crc_Join.below_row HB.out G3.out⟩
  clear B2 B3 HB
  go_loopg [2] 31 (fun kq v2 w' => ∃ (i : Nat), v2 = .int .i64 (i : Int) ∧ Aside0 (i + kq = 32) ∧ Aside0 (1 ≤ i) ∧ Aside0 (w'.heap[b2]? = some (.cells crc_Join.Z 45 (0, 0))) ∧ Aside0 (w'.heap[b3]? = some (.cells (nums .u32 (crc_Join.zp i)).toArray 45 (0, 0))) ∧ Aside0 (Below w.heap.size w w'))
  case atStart => exact ⟨1, rfl, ⟨rfl⟩, ⟨Nat.le_refl _⟩, B2', B3', HB'⟩
  case round =>
    clear B2' B3' HB'
    obtain ⟨i, rfl, HI, H1, B2, B3, HB⟩ := hrel
    cases gk with
    | zero =>
      have hi : i = 32 := by have := HI.out; omega
      subst hi
      have hpart : crc_Join.zp 32 = crc_Join.zl := rfl
      rw [hpart] at B3
      go_wp2_with (first | ((with_reducible refine gate_dst (N := 14) rfl ?_); refine wpList_load_row rfl 45 (.tmp 1) rfl b3 rfl 45 _ (0, 0) (.array 32 23) B3.out Try.underlying45 rfl (crc_Join.sz crc_Join.zl_length) ?_) | (refine wpList_store_row rfl 45 (.tmp 0) (.tmp 14) rfl b2 _ rfl rfl 45 _ B2.out (crc_Join.sz crc_Join.zl_length) (by simp [crc_Join.Z, nums, crc_Join.zl_length]) (crc_Join.one _) ?_))
      (try simp only [Exit.inBlock, Exit.then])
      refine bodyPost_ret (results_cell_row rfl _ _ b2 45 _ (0, 0) (.array 32 23) rfl (setRow_heap wr b2 _ _ _ _ B2.out) Try.underlying45 rfl (crc_Join.sz crc_Join.zl_length)) rfl ?_
      exact ⟨rfl, crc_Join.below_row HB.out G2.out⟩
    | succ k1 =>
      have hi : i < 32 := by have := HI.out; omega
      have h1 := H1.out
      have hi0 : (0 : Int) ≤ (i : Int) := by omega
      have hi1 : (i : Int) < 32 := by omega
      have hpl := crc_Join.zp_length (Nat.le_of_lt hi)
      have hcz : wr.cell? ⟨b3, i, none⟩ = some (.int .u32 ((crc_Join.zp i)[i]'(by omega))) := by
        rw [cell_of_row wr b3 i _ _ _ B3.out]
        simp [nums, hpl, hi]
      have hfz : wr.frozen? ⟨b3, i, none⟩ = false := frozen_of_row wr b3 i _ _ B3.out
      go_wp2
      have hpow : (2 : Int) ^ (i - 1) % 4294967296 = 2 ^ (i - 1) := by
        refine Int.emod_eq_of_lt (Int.le_of_lt (Int.pow_pos (by decide))) ?_
        have h2 : (2 : Int) ^ (i - 1) ≤ 2 ^ 30 := by
          exact_mod_cast Nat.pow_le_pow_right (by decide : 0 < 2) (show i - 1 ≤ 30 by omega)
        have h3 : (2 : Int) ^ 30 = 1073741824 := rfl
        omega
      rw [hpow]
      go_roundg k1
      case measure => omega
      case rel =>
        refine ⟨i + 1, rfl, ⟨by have := HI.out; omega⟩, ⟨by omega⟩, ⟨?_⟩, ⟨?_⟩, ⟨Below.setCell HB.out G3.out _⟩⟩
        · rw [heap_setCell_other _ _ _ _ N23.out]
          exact B2.out
        · have h3 := heap_setCell_same _ b3 i _ _ (.int .u32 ((2 : Int) ^ (i - 1))) B3.out
          rw [crc_Join.set_nums, crc_Join.zp_set (by omega) hi] at h3
          exact h3
theorem crc_Join.xr (x y : Int) : 0 ≤ Go.bits .xor .u32 x y ∧ Go.bits .xor .u32 x y < 4294967296 := by
  unfold Go.bits
  rw [IntKind.wrap_u32]
  omega
theorem crc_Join.tm_range (M : List Int) : ∀ s o : Int, 0 ≤ o ∧ o < 4294967296 → 0 ≤ crc_Join.tm M s o ∧ crc_Join.tm M s o < 4294967296 := by
  induction M with
  | nil => intro s o h; exact h
  | cons c M ih =>
    intro s o h
    unfold crc_Join.tm
    split
    · exact h
    · split
      · exact ih _ _ (crc_Join.xr _ _)
      · exact ih _ _ h
theorem crc_Join.tw_range (M : List Int) : ∀ x ∈ crc_Join.tw M, 0 ≤ x ∧ x < 4294967296 := by
  intro x hx
  unfold crc_Join.tw at hx
  obtain ⟨y, _, rfl⟩ := List.mem_map.1 hx
  exact crc_Join.tm_range M y 0 (by decide)
theorem crc_Join.zl_range : ∀ x ∈ crc_Join.zl, 0 ≤ x ∧ x < 4294967296 := by decide +kernel
def crc_Join.jn : Nat → List Int → Int → Int → Int
  | 0, _, a, _ => a
  | k + 1, M, a, n => if n > 0 then crc_Join.jn k (crc_Join.tw M) (if Go.bits .and .i64 n 1 = 1 then crc_Join.tm M a 0 else a) (n / 2) else a
theorem crc_Join.jn_zero (k : Nat) (M : List Int) (a : Int) : crc_Join.jn k M a 0 = a := by
  cases k with
  | zero => rfl
  | succ k => rw [crc_Join.jn, if_neg (by decide)]
def crc_Join.f (a0 a1 a2 : Int) : Option (Int × Int) := if a2 < 0 ∨ a2 > 16777216 then some (0, 1) else if 0 ≤ a0 ∧ a0 < 4294967296 then some (Go.bits .xor .u32 (crc_Join.jn 28 crc_Join.zl a0 (8 * a2)) a1, 0) else none
set_option maxHeartbeats 8000000 in
theorem crc_Join.calls (a0 a1 a2 r1 r2 : Int) (w : World) (h : crc_Join.f a0 a1 a2 = some (r1, r2)) :
    Calls Try.prog 19 #[.int .u32 a0, .int .u32 a1, .int .i64 a2] w fun e w' => e = .returned (.tuple #[.int .u32 r1, .int .i64 r2]) ∧ Below w.heap.size w w' := by
  unfold crc_Join.f at h
  have HB := Aside0.mk (Below.refl w.heap.size w)
  by_cases c0 : a2 < 0 ∨ a2 > 16777216
  · rw [if_pos c0] at h
    obtain ⟨rfl, rfl⟩ := Prod.mk.inj (Option.some.inj h)
    by_cases c1 : a2 < 0
    · go_enter Try.func19, Try.ntmps19
      go_wp2
      go_ret2
      exact ⟨rfl, upB0 HB.out⟩
    · have c2 : a2 > 16777216 := by omega
      have c1b : decide (a2 < 0) = false := decide_eq_false c1
      have c2b : decide (a2 > 16777216) = true := decide_eq_true c2
      go_enter Try.func19, Try.ntmps19
      go_wp2
      go_ret2
      exact ⟨rfl, upB0 HB.out⟩
  · rw [if_neg c0] at h
    by_cases ca : 0 ≤ a0 ∧ a0 < 4294967296
    · rw [if_pos ca] at h
      obtain ⟨rfl, rfl⟩ := Prod.mk.inj (Option.some.inj h)
      have c1b : decide (a2 < 0) = false := decide_eq_false (by omega)
      have c2b : decide (a2 > 16777216) = false := decide_eq_false (by omega)
      have hu := Try.underlying45
      have q0 : 0 ≤ a2 := by omega
      have q1 : a2 ≤ 16777216 := by omega
      clear c0
      go_enter Try.func19, Try.ntmps19
      go_wp2_with (first | ((with_reducible refine gate_callee (f := 25) rfl ?_); refine goesL_ (some 16) rfl rfl Try.func25 (by kernel_rfl) rfl #[] rfl argA ?_; (refine (crc_Join.zero _).mono ?_); rintro e w1 ⟨rfl, hb1⟩; refine ⟨_, rfl, ?_⟩; replace HB := Aside0.mk (below_step (upB0 HB.out) hb1); clear hb1) | ((with_reducible refine gate_dst (N := 8) rfl ?_); refine box_event ?hg (N := 8) ?hd (cs := crc_Join.Z) (t := 45) ?hr ?_; (case hd => rfl); (case hg => rfl); (case hr => first | (go_simp; done) | (go_simp; rfl)); intro b3 hg3 w2 hbox3 hb3; have B3 := Aside0.mk hbox3; have G3 := Aside0.mk ((by rw [hg3]; exact (below_size (upB0 HB.out))) : w.heap.size ≤ b3); replace HB := Aside0.mk (below_step (upB0 HB.out) hb3); clear hbox3 hb3 hg3) | (refine wpList_store_row rfl 45 (.tmp 8) (.tmp 16) rfl b3 _ rfl rfl 45 _ B3.out (crc_Join.sz crc_Join.zl_length) (by simp [crc_Join.Z, nums, crc_Join.zl_length]) (crc_Join.one _) ?_))
      have B3' : Aside0 ((w2.setRow b3 (nums .u32 crc_Join.zl).toArray).heap[b3]? = some (.cells (nums .u32 crc_Join.zl).toArray 45 (0, 0))) := ⟨setRow_heap _ _ _ _ _ _ B3.out⟩
      have HB' : Aside0 (Below w.heap.size w (w2.setRow b3 (nums .u32 crc_Join.zl).toArray)) := ⟨crc_Join.below_row HB.out G3.out⟩
      clear B3 HB
      go_loopg [0, 9] 28 (fun kq v0 v9 w' => ∃ (M : List Int) (a n : Int), v0 = .int .u32 a ∧ v9 = .int .i64 n ∧ Aside0 (M.length = 32) ∧ Aside0 (∀ x ∈ M, 0 ≤ x ∧ x < 4294967296) ∧ Aside0 (0 ≤ a ∧ a < 4294967296) ∧ Aside0 (0 ≤ n ∧ n < 2 ^ kq) ∧ Aside0 (crc_Join.jn kq M a n = crc_Join.jn 28 crc_Join.zl a0 (8 * a2)) ∧ Aside0 (w'.heap[b3]? = some (.cells (nums .u32 M).toArray 45 (0, 0))) ∧ Aside0 (Below w.heap.size w w'))
      case atStart => exact ⟨crc_Join.zl, a0, 8 * a2, rfl, rfl, ⟨rfl⟩, ⟨crc_Join.zl_range⟩, ⟨ca⟩, ⟨by omega⟩, ⟨rfl⟩, B3', HB'⟩
      case round =>
        clear B3' HB' q0 q1 c1b c2b
        obtain ⟨M, a, n, rfl, rfl, HM, HR, HA, HN, HJ, B3, HB⟩ := hrel
        by_cases c1 : n = 0
        · subst c1
          have hr : a = crc_Join.jn 28 crc_Join.zl a0 (8 * a2) := by rw [← HJ.out, crc_Join.jn_zero]
          go_wp2
          go_ret2
          exact ⟨by rw [← hr]; rfl, upB0 HB.out⟩
        · have hn := HN.out
          have c1b : decide (n > 0) = true := decide_eq_true (by omega)
          have c1c : 0 < n := by omega
          cases gk with
          | zero => exact absurd hn.2 (by omega)
          | succ k1 =>
            have hn2 : 0 ≤ n / 2 ∧ n / 2 < 2 ^ k1 := by
              have h := hn.2
              rw [Int.pow_succ] at h
              omega
            clear hn
            by_cases c2 : Go.bits .and .i64 n 1 = 1
            · have c2b : (Go.bits .and .i64 n 1 == 1) = true := beq_iff_eq.mpr c2
              go_wp2_with (first | ((with_reducible refine gate_callee (f := 26) rfl ?_); refine goesL_ (some 27) rfl rfl Try.func26 (by kernel_rfl) rfl #[.pointer (some ⟨b3, 0, none⟩), .int .u32 a] rfl argA ?_; (refine (crc_Join.times b3 M a _ HM.out (upK B3.out) HA.out).mono ?_); rintro e w' ⟨rfl, ⟨nd, rfl⟩⟩; refine ⟨_, rfl, ?_⟩) | ((with_reducible refine gate_callee (f := 27) rfl ?_); refine goesL_ (some 28) rfl rfl Try.func27 (by kernel_rfl) rfl #[.pointer (some ⟨b3, 0, none⟩)] rfl argA ?_; (refine (crc_Join.twice b3 M _ HM.out HR.out (upK B3.out)).mono ?_); rintro e w4 ⟨rfl, hb4⟩; refine ⟨_, rfl, ?_⟩; replace B3 := Aside0.mk (blk_below (upK B3.out) hb4); replace HB := Aside0.mk (below_step (upB0 HB.out) hb4); clear hb4) | (refine wpList_store_row rfl 45 (.tmp 8) (.tmp 28) rfl b3 _ rfl rfl 45 _ B3.out (crc_Join.sz ((crc_Join.tw_length M).trans HM.out)) (by simp [nums, crc_Join.tw_length]) (crc_Join.one _) ?_))
              go_roundg k1
              case measure => omega
              case rel => exact ⟨crc_Join.tw M, crc_Join.tm M a 0, n / 2, rfl, rfl, ⟨(crc_Join.tw_length M).trans HM.out⟩, ⟨crc_Join.tw_range M⟩, ⟨crc_Join.tm_range M a 0 (by decide)⟩, ⟨hn2⟩, ⟨by have h := HJ.out; rw [crc_Join.jn, if_pos c1c, if_pos c2] at h; exact h⟩, ⟨setRow_heap _ _ _ _ _ _ B3.out⟩, ⟨crc_Join.below_row HB.out G3.out⟩⟩
            · have c2b : (Go.bits .and .i64 n 1 == 1) = false := beq_eq_false_iff_ne.mpr c2
              go_wp2_with (first | ((with_reducible refine gate_callee (f := 27) rfl ?_); refine goesL_ (some 28) rfl rfl Try.func27 (by kernel_rfl) rfl #[.pointer (some ⟨b3, 0, none⟩)] rfl argA ?_; (refine (crc_Join.twice b3 M _ HM.out HR.out (upK B3.out)).mono ?_); rintro e w4 ⟨rfl, hb4⟩; refine ⟨_, rfl, ?_⟩; replace B3 := Aside0.mk (blk_below (upK B3.out) hb4); replace HB := Aside0.mk (below_step (upB0 HB.out) hb4); clear hb4) | (refine wpList_store_row rfl 45 (.tmp 8) (.tmp 28) rfl b3 _ rfl rfl 45 _ B3.out (crc_Join.sz ((crc_Join.tw_length M).trans HM.out)) (by simp [nums, crc_Join.tw_length]) (crc_Join.one _) ?_))
              go_roundg k1
              case measure => omega
              case rel => exact ⟨crc_Join.tw M, a, n / 2, rfl, rfl, ⟨(crc_Join.tw_length M).trans HM.out⟩, ⟨crc_Join.tw_range M⟩, HA, ⟨hn2⟩, ⟨by have h := HJ.out; rw [crc_Join.jn, if_pos c1c, if_neg c2] at h; exact h⟩, ⟨setRow_heap _ _ _ _ _ _ B3.out⟩, ⟨crc_Join.below_row HB.out G3.out⟩⟩
    · rw [if_neg ca] at h
      exact absurd h (by simp)

end Go.Proofs.Ytbpffhdecbgmpaa.F
