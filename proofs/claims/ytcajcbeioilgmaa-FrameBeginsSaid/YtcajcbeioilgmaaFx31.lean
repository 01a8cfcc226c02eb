-- Written by ext (this session's own program).
import Derived.Test.YtcajcbeioilgmaaFx0
namespace Go.Proofs.Ytcajcbeioilgmaa.F
open Go.RowKit Go.Proofs.YtcajcbeioilgmaaW.PrintWords Go.Proofs.YtcajcbeioilgmaaW.PrintLast Go.Proofs.YtcajcbeioilgmaaW.PrintMore
attribute [local go_sem] max2_int min2_int max_two min_two max_three min_three max_four min_four   -- for this text's walks alone
set_option linter.unusedVariables false
set_option linter.unusedSimpArgs false

/-! ### plinthlaw03_few: function 23 -/
mutual
def plinthlaw03_few.l0 : Nat → List (S26) → List (S26) → Int → Option ((List (S26)))
  | 0, _, _, _ => none
  | k + 1, x0, x3, x4 => if x4 < (x0.length : Int) then (plinthlaw03_few.j1 k x0 x3 x4 (decide (x4 < 20))) else (plinthlaw03_few.j1 k x0 x3 x4 false)
def plinthlaw03_few.j1 : Nat → List (S26) → List (S26) → Int → Bool → Option ((List (S26)))
  | 0, _, _, _, _ => none
  | k + 1, x0, x3, x4, x13 => if x13 = true then (if 0 ≤ x4 then (if x4 < (x0.length : Int) then (if (((rd_T26 x0 x4).f2).length : Int) > 500 then (if 500 ≤ (((rd_T26 x0 x4).f2).length : Int) then (if x3.length < 3518437208883 then (plinthlaw03_few.l0 k x0 (x3 ++ [(⟨(rd_T26 x0 x4).f0, (rd_T26 x0 x4).f1, (((rd_T26 x0 x4).f2).take 500)⟩ : S26)]) (wrap64 (x4 + 1))) else (none)) else (none)) else (if x3.length < 3518437208883 then (plinthlaw03_few.l0 k x0 (x3 ++ [(⟨(rd_T26 x0 x4).f0, (rd_T26 x0 x4).f1, (rd_T26 x0 x4).f2⟩ : S26)]) (wrap64 (x4 + 1))) else (none))) else (none)) else (none)) else (some x3)
end
def plinthlaw03_few.f (k : Nat) (l0 : List (S26)) : Option ((List (S26))) := plinthlaw03_few.l0 k l0 ([] : List (S26)) 0
theorem plinthlaw03_few.mono_l : ∀ k, (∀ y0 y1 y2, LeO (plinthlaw03_few.l0 k y0 y1 y2) (plinthlaw03_few.l0 (k + 1) y0 y1 y2)) ∧ (∀ y0 y1 y2 y3, LeO (plinthlaw03_few.j1 k y0 y1 y2 y3) (plinthlaw03_few.j1 (k + 1) y0 y1 y2 y3))
  | 0 => ⟨fun _ _ _ r h => by simp [plinthlaw03_few.l0] at h, fun _ _ _ _ r h => by simp [plinthlaw03_few.j1] at h⟩
  | k + 1 => by
    obtain ⟨ih0, ih1⟩ := plinthlaw03_few.mono_l k
    refine ⟨?_, ?_⟩
    · intro y0 y1 y2
      unfold plinthlaw03_few.l0
      repeat' first
      | (with_reducible exact ih0 _ _ _)
      | (with_reducible exact ih1 _ _ _ _)
      | (with_reducible exact LeO.refl _)
      | (with_reducible exact LeO.none _)
      | (with_reducible refine LeO.ite ?_ ?_)
      | (with_reducible refine LeO.bind ?_ (fun _ => ?_))
      | exact ih0 _ _ _
      | exact ih1 _ _ _ _
      | exact LeO.none _
      | refine LeO.ite ?_ ?_
      | refine LeO.bind ?_ (fun _ => ?_)
    · intro y0 y1 y2 y3
      unfold plinthlaw03_few.j1
      repeat' first
      | (with_reducible exact ih0 _ _ _)
      | (with_reducible exact ih1 _ _ _ _)
      | (with_reducible exact LeO.refl _)
      | (with_reducible exact LeO.none _)
      | (with_reducible refine LeO.ite ?_ ?_)
      | (with_reducible refine LeO.bind ?_ (fun _ => ?_))
      | exact ih0 _ _ _
      | exact ih1 _ _ _ _
      | exact LeO.none _
      | refine LeO.ite ?_ ?_
      | refine LeO.bind ?_ (fun _ => ?_)
theorem plinthlaw03_few.mono : ∀ a0 k, LeO (plinthlaw03_few.f k a0) (plinthlaw03_few.f (k + 1) a0) := by
  intro a0 k
  obtain ⟨ih0, ih1⟩ := plinthlaw03_few.mono_l k
  unfold plinthlaw03_few.f
  repeat' first
      | (with_reducible exact ih0 _ _ _)
      | (with_reducible exact ih1 _ _ _ _)
      | (with_reducible exact LeO.refl _)
      | (with_reducible exact LeO.none _)
      | (with_reducible refine LeO.ite ?_ ?_)
      | (with_reducible refine LeO.bind ?_ (fun _ => ?_))
      | exact ih0 _ _ _
      | exact ih1 _ _ _ _
      | exact LeO.none _
      | refine LeO.ite ?_ ?_
      | refine LeO.bind ?_ (fun _ => ?_)
set_option maxHeartbeats 8000000 in
set_option maxRecDepth 100000 in
theorem plinthlaw03_few.calls (k : Nat) (P0_ : Nat → Prop) (A0 : Option Addr) (c0 : Nat) (l0 : List (S26)) (r : List (S26)) (w : World) (hs0 : Kd.V k26 26 w w.heap.size (fun k_ => P0_ k_) (.slice A0 l0.length c0) l0) (h : plinthlaw03_few.f k l0 = some r) :
    Calls Try.prog 23 #[.slice A0 l0.length c0] w fun e w' => ∃ v0_ : Value, e = .returned (v0_) ∧ Kd.N k26 26 w' w.heap.size (fun k_ => (P0_ k_ ∨ w.heap.size ≤ k_)) v0_ r ∧ Below w.heap.size w w' := by
  have hu26 := Try.underlying26
  have HO0 := Aside0.mk (show Kd.V k26 26 w w.heap.size (fun k_ => (P0_ k_ ∨ w.heap.size ≤ k_)) (.slice A0 l0.length c0) l0 from Kd.V_mono hs0 (fun k_ hk => .inl hk))
  have HB := Aside0.mk (Below.refl w.heap.size w)
  have H : (plinthlaw03_few.l0 k l0 ([] : List (S26)) 0) = some r := h
  clear h
  have H' := Aside0.mk H
  clear H
  go_enter Try.func23, Try.ntmps23
  go_wp2
  go_loopg [3, 4] k (fun kq v3 v4 w' => ∃ (x3_1 : List (S26)) (x4_1 : Int), v4 = .int .i64 x4_1 ∧ Aside0 (plinthlaw03_few.l0 kq l0 x3_1 x4_1 = some r) ∧ Aside0 (kq ≤ k) ∧ Aside0 (Kd.V k26 26 w' w.heap.size (fun k_ => (P0_ k_ ∨ w.heap.size ≤ k_) ∧ some k_ ≠ (v3 : Value).ownBlock) (.slice A0 l0.length c0) l0) ∧ Aside0 (Kd.N k26 26 w' w.heap.size (fun k_ => (P0_ k_ ∨ w.heap.size ≤ k_)) v3 x3_1) ∧ Aside0 (Below w.heap.size w w'))
  case atStart => exact ⟨(([] : List (S26))), (0), (by first | rfl | (simp; done) | (simp [*]; done)), H', ⟨Nat.le_refl _⟩, ⟨by refine upV ?_; exact Kd.V_mono HO0.out (fun _ hk => ⟨hk, (by simp [Value.ownBlock])⟩)⟩, ⟨by first | exact Kd.S_nil _ _ _ _ _ | exact Kd.N_nil _ _ _ _ _ | exact Kd.V_nil _ _ _ _ _ | exact Kd.Q_nil _ _ _ _ _ | exact Kd.R_nil _ _ _ _ _⟩, ⟨upB0 HB.out⟩⟩
  case round =>
    clear H'
    obtain ⟨x3_1, x4_1, rfl, HA, HK1, HO_0, HO_3, HB⟩ := hrel
    cases gk with
    | zero => exact absurd HA.out (by simp [plinthlaw03_few.l0])
    | succ k1 =>
      have H := HA.out
      clear HA
      simp only [plinthlaw03_few.l0] at H
      have HC2 := Aside0.mk H
      clear H
      go_upto_region 3 with (fail)
      go_cut [13] (fun v13 wc => ∃ (kq : Nat) (x13_1 : Bool), v13 = .bool x13_1 ∧ Aside0 (plinthlaw03_few.j1 kq l0 x3_1 x4_1 x13_1 = some r) ∧ Aside0 (kq ≤ k1) ∧ Aside0 (Kd.V k26 26 wc w.heap.size (fun k_ => (P0_ k_ ∨ w.heap.size ≤ k_) ∧ some k_ ≠ (u3 : Value).ownBlock) (.slice A0 l0.length c0) l0) ∧ Aside0 (Kd.N k26 26 wc w.heap.size (fun k_ => (P0_ k_ ∨ w.heap.size ≤ k_)) u3 x3_1) ∧ Aside0 (Below w.heap.size w wc))
      case first =>
        have H := HC2.out
        clear HC2
        by_cases c3 : x4_1 < (l0.length : Int)
        · rw [if_pos c3] at H
          have c3b0 : decide (x4_1 < (l0.length : Int)) = true := decide_eq_true c3
          clear c3
          (first | rw [c3b0] | (simp only [i64_w, i32_w]; rw [c3b0]) | skip)
          have H' := Aside0.mk H
          clear H
          go_wp2
          go_meet
          case rel => exact ⟨_, (decide (x4_1 < 20)), (by first | rfl | (simp; done) | (simp [*]; done)), H', ⟨by have := HK1.out; first | omega | exact Nat.le_refl _⟩, ⟨by refine upV ?_; exact HO_0.out⟩, ⟨by (with_reducible repeat (first | apply Kd.N_alloc | apply Kd.N_drewN | apply Kd.N_drew)); exact HO_3.out⟩, ⟨upB0 HB.out⟩⟩
        · rw [if_neg c3] at H
          have c3b0 : decide (x4_1 < (l0.length : Int)) = false := decide_eq_false c3
          clear c3
          (first | rw [c3b0] | (simp only [i64_w, i32_w]; rw [c3b0]) | skip)
          have H' := Aside0.mk H
          clear H
          go_wp2
          go_meet
          case rel => exact ⟨_, (false), (by first | rfl | (simp; done) | (simp [*]; done)), H', ⟨by have := HK1.out; first | omega | exact Nat.le_refl _⟩, ⟨by refine upV ?_; exact HO_0.out⟩, ⟨by (with_reducible repeat (first | apply Kd.N_alloc | apply Kd.N_drewN | apply Kd.N_drew)); exact HO_3.out⟩, ⟨upB0 HB.out⟩⟩
      case rest =>
        clear HC2
        try clear c2
        try clear p2
        try clear c3
        try clear c3b0
        obtain ⟨kq, x13_1, rfl, HA, HJ1, HO_0, HO_3, HB⟩ := hcut
        cases kq with
        | zero => exact absurd HA.out (by simp [plinthlaw03_few.j1])
        | succ kj1 =>
          have H := HA.out
          clear HA
          simp only [plinthlaw03_few.j1] at H
          by_cases c4 : x13_1 = true
          · subst c4
            have H1 : (if 0 ≤ x4_1 then (if x4_1 < (l0.length : Int) then (if (((rd_T26 l0 x4_1).f2).length : Int) > 500 then (if 500 ≤ (((rd_T26 l0 x4_1).f2).length : Int) then (if x3_1.length < 3518437208883 then (plinthlaw03_few.l0 kj1 l0 (x3_1 ++ [(⟨(rd_T26 l0 x4_1).f0, (rd_T26 l0 x4_1).f1, (((rd_T26 l0 x4_1).f2).take 500)⟩ : S26)]) (wrap64 (x4_1 + 1))) else (none)) else (none)) else (if x3_1.length < 3518437208883 then (plinthlaw03_few.l0 kj1 l0 (x3_1 ++ [(⟨(rd_T26 l0 x4_1).f0, (rd_T26 l0 x4_1).f1, (rd_T26 l0 x4_1).f2⟩ : S26)]) (wrap64 (x4_1 + 1))) else (none))) else (none)) else (none)) = some r := by rw [if_pos rfl] at H; exact H
            clear H
            have H := H1
            clear H1
            by_cases c5 : 0 ≤ x4_1
            · rw [if_pos c5] at H
              have c5b0 : decide (0 ≤ x4_1) = true := decide_eq_true c5
              clear c5
              by_cases c6 : x4_1 < (l0.length : Int)
              · rw [if_pos c6] at H
                have c6b0 : decide (x4_1 < (l0.length : Int)) = true := decide_eq_true c6
                clear c6
                by_cases c7 : (((rd_T26 l0 x4_1).f2).length : Int) > 500
                · rw [if_pos c7] at H
                  have c7b0 : decide (500 < (((rd_T26 l0 x4_1).f2).length : Int)) = true := decide_eq_true c7
                  have c7b1 : decide (500 < ((rd_T26 l0 x4_1).f2).length) = true := decide_eq_true (by omega)
                  clear c7
                  by_cases c8 : 500 ≤ (((rd_T26 l0 x4_1).f2).length : Int)
                  · rw [if_pos c8] at H
                    have c8b0 := eq_true c8
                    have c8b1 : decide (500 ≤ (((rd_T26 l0 x4_1).f2).length : Int)) = true := decide_eq_true c8
                    clear c8
                    obtain ⟨y514, hy514⟩ : ∃ y_ : List Int, y_ = (((rd_T26 l0 x4_1).f2).take 500) := ⟨_, rfl⟩
                    replace H : (if x3_1.length < 3518437208883 then (plinthlaw03_few.l0 kj1 l0 (x3_1 ++ [(⟨(rd_T26 l0 x4_1).f0, (rd_T26 l0 x4_1).f1, y514⟩ : S26)]) (wrap64 (x4_1 + 1))) else (none)) = some r := by first | (rw [hy514]; with_reducible exact H) | (have H2_ := (Option.bind_some _ _).symm.trans H; rw [hy514]; with_reducible exact H2_) | (have H2_ := (Option.bind_some _ _).symm.trans H; with_reducible exact H2_) | with_reducible exact H | (rw [hy514]; exact H) | exact H
                    have Ny514 := Aside0.mk hy514
                    clear hy514
                    by_cases c9 : x3_1.length < 3518437208883
                    · rw [if_pos c9] at H
                      have LMc9 := Aside0.mk c9
                      clear c9
                      obtain ⟨y519, hy519⟩ : ∃ y_ : List (S26), y_ = (x3_1 ++ [(⟨(rd_T26 l0 x4_1).f0, (rd_T26 l0 x4_1).f1, y514⟩ : S26)]) := ⟨_, rfl⟩
                      replace H : (plinthlaw03_few.l0 kj1 l0 y519 (wrap64 (x4_1 + 1))) = some r := by first | (rw [hy519]; with_reducible exact H) | (have H2_ := (Option.bind_some _ _).symm.trans H; rw [hy519]; with_reducible exact H2_) | (have H2_ := (Option.bind_some _ _).symm.trans H; with_reducible exact H2_) | with_reducible exact H | (rw [hy519]; exact H) | exact H
                      have Ny519 := Aside0.mk hy519
                      clear hy519
                      have H' := Aside0.mk H
                      clear H
                      have p512 : 0 ≤ (x4_1 : Int) := of_decide_eq_true (by first | (with_reducible assumption) | assumption)
                      have q512 : x4_1 < (l0.length : Int) := of_decide_eq_true (by first | (with_reducible assumption) | assumption)
                      obtain ⟨ad512, A512_2, c512_2, e512, hx512_0, hx512_1, hx512_2, hl512_2, hi512_2⟩ := at_T26 (Kd.V_reads' HO_0.out).2.2 x4_1 p512 q512
                      cases e512
                      obtain ⟨ce512, hce512, hMe512, hcc512⟩ := Kd.V_get HO_0.out z26 x4_1 p512 (by first | exact q512 | exact of_decide_eq_true (by first | (with_reducible assumption) | assumption) | (have e_ := (Kd.V_reads' HO_0.out).1; omega))
                      obtain ⟨ua512_2, uc512_2, rfl, ul512_2, ge512_2⟩ := k26_openF hMe512
                      have hv512_2 := hcc512 2 _ rfl
                      rw [add_field _ _ 2 (by omega)] at hv512_2
                      replace hv512_2 := Option.some.inj (hv512_2.symm.trans hx512_2)
                      injection hv512_2 with hva_ hvn_ hvc_
                      rw [hva_] at ge512_2
                      rw [hvc_] at ul512_2
                      have HL512_2 := Aside0.mk (show Kd.V (Kd.int .u8) 5 _ w.heap.size _ _ ((rd_T26 l0 x4_1).f2) from Kd.V_mk ul512_2 ge512_2)
                      clear hva_ hvn_ hvc_ ge512_2 ul512_2
                      clear hcc512 hce512
                      have HR512_2 := Aside0.mk hi512_2
                      have HC512_2 := Aside0.mk hl512_2
                      clear hi512_2 hl512_2
                      replace p512 := eq_true p512
                      replace q512 := eq_true q512
                      go_wp2_with (first | ((with_reducible refine gate_dst (N := 5) rfl ?_); refine box_event ?hg (N := 5) ?hd (cs := #[.int .u8 0, .int .u64 0, .slice none 0 0]) (t := 26) ?hr ?_; (case hd => rfl); (case hg => rfl); (case hr => first | (go_simp; done) | (go_simp; rfl)); intro gb513 hg w10 hbox hb; replace HO_0 := Aside0.mk (Kd.V_below (Kd.V_elderB (upV HO_0.out) gb513 (Nat.le_of_eq hg.symm)) hb); replace HO_3 := Aside0.mk (Kd.N_below (Kd.N_elderB (by (with_reducible repeat (first | apply Kd.N_alloc | apply Kd.N_drewN | apply Kd.N_drew)); exact HO_3.out) gb513 (Nat.le_of_eq hg.symm)) hb); replace HL512_2 := Aside0.mk (Kd.V_below (Kd.V_elderB (upV HL512_2.out) gb513 (Nat.le_of_eq hg.symm)) hb); replace HR512_2 := Aside0.mk (Kd.C_below (by repeat (first | (with_reducible exact HR512_2.out) | (with_reducible refine Kd.C_alloc ?_ _) | (with_reducible refine Kd.C_drewN ?_ _) | (with_reducible refine Kd.C_drew ?_) | exact HR512_2.out)) hb); have BK513 := Aside0.mk (hbox); have GW513 := Aside0.mk ((by rw [hg]; exact (below_size (upB0 HB.out)) : w.heap.size ≤ gb513)); have GE513 := Aside0.mk ((by rw [hg]; exact (below_size (upB0 HB.out)) : w.heap.size ≤ gb513)); replace HB := Aside0.mk (below_step (upB0 HB.out) hb); clear hb hbox hg; obtain ⟨hcz11_0, hcz11_1, hcz11_2, hfz11_0, hfz11_1, hfz11_2⟩ := cells3 BK513.out) | ((with_reducible refine gate_store (t := 26) (p := 5) rfl ?_); refine store_event (t := 26) (p := 5) (v := ?vo_w12) (w1 := (((w10.setCell ⟨gb513, 0, none⟩ (.int .u8 ((rd_T26 l0 x4_1).f0))).setCell ⟨gb513, 1, none⟩ (.int .u64 ((rd_T26 l0 x4_1).f1))).setCell ⟨gb513, 2, none⟩ (.slice A512_2 ((rd_T26 l0 x4_1).f2).length c512_2))) ?hg ?ho ?hn ?hr ?_; (case ho => rfl); (case hg => rfl); (case hn => rfl); (case hr => first | (go_simp; done) | (go_simp; rfl)); intro w12 hw; have n0_ : Aside0 (Kd.V k26 26 w12 w.heap.size (fun k_ => (P0_ k_ ∨ w.heap.size ≤ k_) ∧ some k_ ≠ (u3 : Value).ownBlock ∧ k_ ≠ gb513) (.slice (some ad512) l0.length c0) l0) := ⟨(by rw [hw]; exact (by refine upV ?_; exact Kd.V_mono (garV3 (g := gb513) (Kd.V_mono HO_0.out (fun k_ hk => (⟨hk, hk.2⟩ : _ ∧ k_ ≠ gb513))) 0 (.int .u8 ((rd_T26 l0 x4_1).f0)) 1 (.int .u64 ((rd_T26 l0 x4_1).f1)) 2 (.slice A512_2 ((rd_T26 l0 x4_1).f2).length c512_2)) (fun _ hk => ⟨hk.1.1.1, ⟨hk.1.1.2, hk.1.2⟩⟩)))⟩; have n1_ : Aside0 (Kd.N k26 26 w12 w.heap.size (fun k_ => (P0_ k_ ∨ w.heap.size ≤ k_) ∧ k_ ≠ gb513) u3 x3_1) := ⟨(by rw [hw]; exact (by (with_reducible repeat (first | apply Kd.N_alloc | apply Kd.N_drewN | apply Kd.N_drew)); exact Kd.N_mono (Kd.N_far (p := ⟨gb513, 2, none⟩) (Kd.N_far (p := ⟨gb513, 1, none⟩) (Kd.N_far (p := ⟨gb513, 0, none⟩) (Kd.N_mono HO_3.out (fun k_ hk => (⟨hk, hk.2⟩ : _ ∧ k_ ≠ gb513))) (fun _ hk => hk.2) (.int .u8 ((rd_T26 l0 x4_1).f0))) (fun _ hk => hk.2) (.int .u64 ((rd_T26 l0 x4_1).f1))) (fun _ hk => hk.2) (.slice A512_2 ((rd_T26 l0 x4_1).f2).length c512_2)) (fun _ hk => ⟨hk.1.1, hk.1.2⟩)))⟩; have n2_ : Aside0 (Kd.V (Kd.int .u8) 5 w12 w.heap.size (fun k_ => (P0_ k_ ∨ w.heap.size ≤ k_) ∧ some k_ ≠ (u3 : Value).ownBlock ∧ k_ ≠ gb513) (.slice A512_2 ((rd_T26 l0 x4_1).f2).length c512_2) ((rd_T26 l0 x4_1).f2)) := ⟨(by rw [hw]; exact (by refine upV ?_; exact Kd.V_mono (garV3 (g := gb513) (Kd.V_mono HL512_2.out (fun k_ hk => (⟨hk, hk.2⟩ : _ ∧ k_ ≠ gb513))) 0 (.int .u8 ((rd_T26 l0 x4_1).f0)) 1 (.int .u64 ((rd_T26 l0 x4_1).f1)) 2 (.slice A512_2 ((rd_T26 l0 x4_1).f2).length c512_2)) (fun _ hk => ⟨hk.1.1.1, ⟨hk.1.1.2, hk.1.2⟩⟩)))⟩; have n3_ : Aside0 (w12.heap[gb513]? = some (.cells #[.int .u8 ((rd_T26 l0 x4_1).f0), .int .u64 ((rd_T26 l0 x4_1).f1), .slice A512_2 ((rd_T26 l0 x4_1).f2).length c512_2] 26 (0, 0))) := ⟨(by rw [hw]; exact (by refine upK ?_; refine blk_put (cs := #[.int .u8 ((rd_T26 l0 x4_1).f0), .int .u64 ((rd_T26 l0 x4_1).f1), .slice none 0 0]) ?_ 2 _ rfl; refine upK ?_; refine blk_put (cs := #[.int .u8 ((rd_T26 l0 x4_1).f0), .int .u64 0, .slice none 0 0]) ?_ 1 _ rfl; refine upK ?_; refine blk_put (cs := #[.int .u8 0, .int .u64 0, .slice none 0 0]) ?_ 0 _ rfl; refine upK ?_; exact BK513.out))⟩; have n4_ : Aside0 (Below w.heap.size w w12) := ⟨(by rw [hw]; exact (upB1 HB.out GE513.out))⟩; clear hw; clear HO_0; clear HO_3; clear HL512_2; clear BK513; clear HB; have HO_0 := n0_; have HO_3 := n1_; have HL512_2 := n2_; have BK513 := n3_; have HB := n4_; clear n0_ n1_ n2_ n3_ n4_; obtain ⟨hcz13_0, hcz13_1, hcz13_2, hfz13_0, hfz13_1, hfz13_2⟩ := cells3 BK513.out; have q14 : (500 : Int) ≤ ((((rd_T26 l0 x4_1).f2).length : Int) : Int) := of_decide_eq_true (by first | (with_reducible assumption) | assumption); obtain ⟨i014, hi014, _, hsz14, _⟩ := info_parts info5; have hroom14 : ((rd_T26 l0 x4_1).f2).length ≤ c512_2 := HC512_2.out; have hC14 : Kd.F (Kd.int .u8) _ _ A512_2 ((rd_T26 l0 x4_1).f2).length ((rd_T26 l0 x4_1).f2) := (Kd.V_at (base := w.heap.size) HL512_2.out).2.2; have hcut14 := cut_to (P := Try.prog) 22 5 .i64 Try.underlying22 hi014 A512_2 ((rd_T26 l0 x4_1).f2).length c512_2 500 (by omega) q14 hroom14; have hr14 := Kd.F_take (m := 500) hC14 (by omega); have hy14 : y514.length = (500 : Int).toNat := (by rw [Ny514.out, List.length_take]; omega); rw [← Ny514.out] at hr14; rw [← hy14] at hcut14; have HO518 := Aside0.mk (show Kd.V (Kd.int .u8) 5 _ w.heap.size _ (.slice A512_2 y514.length c512_2) y514 from Kd.V_mk (by omega) hr14); have HC518 := Aside0.mk (show y514.length ≤ c512_2 from by omega); clear hr14 hC14 hroom14 hi014 hsz14; have KY14 := Aside0.mk hy14; clear hy14; replace q14 := eq_true q14) | ((with_reducible refine gate_store (t := 22) (p := 27) rfl ?_); refine store_event (t := 22) (p := 27) (v := ?vo_w15) (w1 := (w12.setCell ⟨gb513, 2, none⟩ (.slice A512_2 y514.length c512_2))) ?hg ?ho ?hn ?hr ?_; (case ho => rfl); (case hg => rfl); (case hn => rfl); (case hr => first | (go_simp; done) | (go_simp; rfl)); intro w15 hw; have n0_ : Aside0 (Kd.V k26 26 w15 w.heap.size (fun k_ => (P0_ k_ ∨ w.heap.size ≤ k_) ∧ some k_ ≠ (u3 : Value).ownBlock ∧ k_ ≠ gb513) (.slice (some ad512) l0.length c0) l0) := ⟨(by rw [hw]; exact (by refine upV ?_; exact Kd.V_mono (garV1 (g := gb513) (Kd.V_mono HO_0.out (fun k_ hk => (⟨hk, hk.2.2⟩ : _ ∧ k_ ≠ gb513))) 2 (.slice A512_2 y514.length c512_2)) (fun _ hk => ⟨hk.1.1, ⟨hk.1.2.1, hk.1.2.2⟩⟩)))⟩; have n1_ : Aside0 (Kd.N k26 26 w15 w.heap.size (fun k_ => (P0_ k_ ∨ w.heap.size ≤ k_) ∧ k_ ≠ gb513) u3 x3_1) := ⟨(by rw [hw]; exact (by (with_reducible repeat (first | apply Kd.N_alloc | apply Kd.N_drewN | apply Kd.N_drew)); exact Kd.N_mono (Kd.N_far (p := ⟨gb513, 2, none⟩) (Kd.N_mono HO_3.out (fun k_ hk => (⟨hk, hk.2⟩ : _ ∧ k_ ≠ gb513))) (fun _ hk => hk.2) (.slice A512_2 y514.length c512_2)) (fun _ hk => ⟨hk.1.1, hk.1.2⟩)))⟩; have n2_ : Aside0 (Kd.V (Kd.int .u8) 5 w15 w.heap.size (fun k_ => (P0_ k_ ∨ w.heap.size ≤ k_) ∧ some k_ ≠ (u3 : Value).ownBlock ∧ k_ ≠ gb513) (.slice A512_2 ((rd_T26 l0 x4_1).f2).length c512_2) ((rd_T26 l0 x4_1).f2)) := ⟨(by rw [hw]; exact (by refine upV ?_; exact Kd.V_mono (garV1 (g := gb513) (Kd.V_mono HL512_2.out (fun k_ hk => (⟨hk, hk.2.2⟩ : _ ∧ k_ ≠ gb513))) 2 (.slice A512_2 y514.length c512_2)) (fun _ hk => ⟨hk.1.1, ⟨hk.1.2.1, hk.1.2.2⟩⟩)))⟩; have n3_ : Aside0 (Kd.V (Kd.int .u8) 5 w15 w.heap.size (fun k_ => (P0_ k_ ∨ w.heap.size ≤ k_) ∧ some k_ ≠ (u3 : Value).ownBlock ∧ k_ ≠ gb513) (.slice A512_2 y514.length c512_2) y514) := ⟨(by rw [hw]; exact (by refine upV ?_; exact Kd.V_mono (garV1 (g := gb513) (Kd.V_mono HO518.out (fun k_ hk => (⟨hk, hk.2.2⟩ : _ ∧ k_ ≠ gb513))) 2 (.slice A512_2 y514.length c512_2)) (fun _ hk => ⟨hk.1.1, ⟨hk.1.2.1, hk.1.2.2⟩⟩)))⟩; have n4_ : Aside0 (w15.heap[gb513]? = some (.cells #[.int .u8 ((rd_T26 l0 x4_1).f0), .int .u64 ((rd_T26 l0 x4_1).f1), .slice A512_2 y514.length c512_2] 26 (0, 0))) := ⟨(by rw [hw]; exact (by refine upK ?_; refine blk_put (cs := #[.int .u8 ((rd_T26 l0 x4_1).f0), .int .u64 ((rd_T26 l0 x4_1).f1), .slice A512_2 ((rd_T26 l0 x4_1).f2).length c512_2]) ?_ 2 _ rfl; refine upK ?_; exact BK513.out))⟩; have n5_ : Aside0 (Below w.heap.size w w15) := ⟨(by rw [hw]; exact (upB1 HB.out GE513.out))⟩; clear hw; clear HO_0; clear HO_3; clear HL512_2; clear HO518; clear BK513; clear HB; have HO_0 := n0_; have HO_3 := n1_; have HL512_2 := n2_; have HO518 := n3_; have BK513 := n4_; have HB := n5_; clear n0_ n1_ n2_ n3_ n4_ n5_; obtain ⟨hcz16_0, hcz16_1, hcz16_2, hfz16_0, hfz16_1, hfz16_2⟩ := cells3 BK513.out) | ((with_reducible refine gate_builtin (b := .append) (xs := #[.tmp 28, .tmp 30]) rfl ?_); at_builtin; refine Kd.N_append k26 (w0 := w) w.heap.size rfl (.tmp 28) (.tmp 30) 39 26 (.agg #[(.int .u8 0), (.int .u64 0), (.slice none 0 0)]) 40 rfl Try.underlying39 info26 rfl (by decide) (by omega) u3 x3_1 (⟨(rd_T26 l0 x4_1).f0, (rd_T26 l0 x4_1).f1, y514⟩ : S26) [.int .u8 ((rd_T26 l0 x4_1).f0), .int .u64 ((rd_T26 l0 x4_1).f1), .slice A512_2 y514.length c512_2] (fun k_ => (P0_ k_ ∨ w.heap.size ≤ k_) ∧ k_ ≠ gb513) (fun k_ => ((fun k_ => (P0_ k_ ∨ w.heap.size ≤ k_) ∧ k_ ≠ gb513)) k_ ∧ some k_ ≠ (u3 : Value).ownBlock) rfl rfl ?aP (fun _ hk => hk) ?aF ?aO ?aB ?aS ?aL ?_; (case aP => exact (k26_mkF _ _ (⟨(rd_T26 l0 x4_1).f0, (rd_T26 l0 x4_1).f1, y514⟩ : S26) (Kd.V_reads' (Kd.V_mono (ok' := (fun k_ => ((fun k_ => (P0_ k_ ∨ w.heap.size ≤ k_) ∧ k_ ≠ gb513)) k_ ∧ some k_ ≠ (u3 : Value).ownBlock)) (HO518.out) (fun k_ hk => ⟨⟨hk.1, hk.2.2⟩, hk.2.1⟩))).2.1 (Kd.V_F (Kd.V_mono (ok' := (fun k_ => ((fun k_ => (P0_ k_ ∨ w.heap.size ≤ k_) ∧ k_ ≠ gb513)) k_ ∧ some k_ ≠ (u3 : Value).ownBlock)) (HO518.out) (fun k_ hk => ⟨⟨hk.1, hk.2.2⟩, hk.2.1⟩))))); (case aB => exact (upB1 HB.out GE513.out)); (case aF => exact (fun k_ hk => ⟨(.inr (Nat.le_trans (below_size (upB1 HB.out GE513.out)) hk)), Kd.freshB (upK BK513.out) k_ hk⟩)); (case aO => exact (by (with_reducible repeat (first | apply Kd.N_alloc | apply Kd.N_drewN | apply Kd.N_drew)); exact HO_3.out)); (case aS => exact (below_size (upB1 HB.out GE513.out))); (case aL => have := LMc9.out; omega); intro v520 w17 ho hb hg hat; rw [← Ny519.out] at ho; have n0_ := Aside0.mk (Kd.V_afterv (ok := (fun k_ => (P0_ k_ ∨ w.heap.size ≤ k_) ∧ k_ ≠ gb513)) (by refine upV ?_; exact Kd.V_mono HO_0.out (fun _ hk => ⟨⟨hk.1, hk.2.2⟩, hk.2.1⟩)) hg hat); have n1_ := Aside0.mk (Kd.V_afterv (ok := (fun k_ => (P0_ k_ ∨ w.heap.size ≤ k_) ∧ k_ ≠ gb513)) (by refine upV ?_; exact Kd.V_mono HL512_2.out (fun _ hk => ⟨⟨hk.1, hk.2.2⟩, hk.2.1⟩)) hg hat); have n2_ := Aside0.mk (blk_grown (upK BK513.out) hg (Kd.N_away HO_3.out (fun _ hk => hk.2))); have n3_ := Aside0.mk (Kd.V_afterv (ok := (fun k_ => (P0_ k_ ∨ w.heap.size ≤ k_) ∧ k_ ≠ gb513)) (by refine upV ?_; exact Kd.V_mono HO518.out (fun _ hk => ⟨⟨hk.1, hk.2.2⟩, hk.2.1⟩)) hg hat); have n4_ := Aside0.mk (hb); have n5_ := Aside0.mk (ho); clear HO_0; clear HL512_2; clear BK513; clear HO518; clear HB; clear HO_3; have HO_0 := n0_; have HL512_2 := n1_; have BK513 := n2_; have HO518 := n3_; have HB := n4_; have HO521 := n5_; clear n0_ n1_ n2_ n3_ n4_ n5_; clear ho hb hg hat))
                      go_roundg kj1
                      case measure => have := HK1.out; have := HJ1.out; omega
                      case rel => exact ⟨(y519), (wrap64 (x4_1 + 1)), (by first | rfl | (simp; done) | (simp [*]; done)), H', ⟨by have := HK1.out; have := HJ1.out; omega⟩, ⟨by refine upV ?_; exact Kd.V_mono HO_0.out (fun _ hk => ⟨hk.1.1, hk.2⟩)⟩, ⟨by (with_reducible repeat (first | apply Kd.N_alloc | apply Kd.N_drewN | apply Kd.N_drew)); exact Kd.N_mono HO521.out (fun _ hk => hk.1)⟩, ⟨upB1 HB.out GE513.out⟩⟩
                    · rw [if_neg c9] at H
                      exact absurd H (by simp)
                  · rw [if_neg c8] at H
                    exact absurd H (by simp)
                · rw [if_neg c7] at H
                  have c7b0 : decide (500 < (((rd_T26 l0 x4_1).f2).length : Int)) = false := decide_eq_false c7
                  have c7b1 : decide (500 < ((rd_T26 l0 x4_1).f2).length) = false := decide_eq_false (by omega)
                  clear c7
                  by_cases c18 : x3_1.length < 3518437208883
                  · rw [if_pos c18] at H
                    have LMc18 := Aside0.mk c18
                    clear c18
                    obtain ⟨y522, hy522⟩ : ∃ y_ : List (S26), y_ = (x3_1 ++ [(⟨(rd_T26 l0 x4_1).f0, (rd_T26 l0 x4_1).f1, (rd_T26 l0 x4_1).f2⟩ : S26)]) := ⟨_, rfl⟩
                    replace H : (plinthlaw03_few.l0 kj1 l0 y522 (wrap64 (x4_1 + 1))) = some r := by first | (rw [hy522]; with_reducible exact H) | (have H2_ := (Option.bind_some _ _).symm.trans H; rw [hy522]; with_reducible exact H2_) | (have H2_ := (Option.bind_some _ _).symm.trans H; with_reducible exact H2_) | with_reducible exact H | (rw [hy522]; exact H) | exact H
                    have Ny522 := Aside0.mk hy522
                    clear hy522
                    have H' := Aside0.mk H
                    clear H
                    have p512 : 0 ≤ (x4_1 : Int) := of_decide_eq_true (by first | (with_reducible assumption) | assumption)
                    have q512 : x4_1 < (l0.length : Int) := of_decide_eq_true (by first | (with_reducible assumption) | assumption)
                    obtain ⟨ad512, A512_2, c512_2, e512, hx512_0, hx512_1, hx512_2, hl512_2, hi512_2⟩ := at_T26 (Kd.V_reads' HO_0.out).2.2 x4_1 p512 q512
                    cases e512
                    obtain ⟨ce512, hce512, hMe512, hcc512⟩ := Kd.V_get HO_0.out z26 x4_1 p512 (by first | exact q512 | exact of_decide_eq_true (by first | (with_reducible assumption) | assumption) | (have e_ := (Kd.V_reads' HO_0.out).1; omega))
                    obtain ⟨ua512_2, uc512_2, rfl, ul512_2, ge512_2⟩ := k26_openF hMe512
                    have hv512_2 := hcc512 2 _ rfl
                    rw [add_field _ _ 2 (by omega)] at hv512_2
                    replace hv512_2 := Option.some.inj (hv512_2.symm.trans hx512_2)
                    injection hv512_2 with hva_ hvn_ hvc_
                    rw [hva_] at ge512_2
                    rw [hvc_] at ul512_2
                    have HL512_2 := Aside0.mk (show Kd.V (Kd.int .u8) 5 _ w.heap.size _ _ ((rd_T26 l0 x4_1).f2) from Kd.V_mk ul512_2 ge512_2)
                    clear hva_ hvn_ hvc_ ge512_2 ul512_2
                    clear hcc512 hce512
                    have HR512_2 := Aside0.mk hi512_2
                    have HC512_2 := Aside0.mk hl512_2
                    clear hi512_2 hl512_2
                    replace p512 := eq_true p512
                    replace q512 := eq_true q512
                    go_wp2_with (first | ((with_reducible refine gate_dst (N := 5) rfl ?_); refine box_event ?hg (N := 5) ?hd (cs := #[.int .u8 0, .int .u64 0, .slice none 0 0]) (t := 26) ?hr ?_; (case hd => rfl); (case hg => rfl); (case hr => first | (go_simp; done) | (go_simp; rfl)); intro gb513 hg w19 hbox hb; replace HO_0 := Aside0.mk (Kd.V_below (Kd.V_elderB (upV HO_0.out) gb513 (Nat.le_of_eq hg.symm)) hb); replace HO_3 := Aside0.mk (Kd.N_below (Kd.N_elderB (by (with_reducible repeat (first | apply Kd.N_alloc | apply Kd.N_drewN | apply Kd.N_drew)); exact HO_3.out) gb513 (Nat.le_of_eq hg.symm)) hb); replace HL512_2 := Aside0.mk (Kd.V_below (Kd.V_elderB (upV HL512_2.out) gb513 (Nat.le_of_eq hg.symm)) hb); replace HR512_2 := Aside0.mk (Kd.C_below (by repeat (first | (with_reducible exact HR512_2.out) | (with_reducible refine Kd.C_alloc ?_ _) | (with_reducible refine Kd.C_drewN ?_ _) | (with_reducible refine Kd.C_drew ?_) | exact HR512_2.out)) hb); have BK513 := Aside0.mk (hbox); have GW513 := Aside0.mk ((by rw [hg]; exact (below_size (upB0 HB.out)) : w.heap.size ≤ gb513)); have GE513 := Aside0.mk ((by rw [hg]; exact (below_size (upB0 HB.out)) : w.heap.size ≤ gb513)); replace HB := Aside0.mk (below_step (upB0 HB.out) hb); clear hb hbox hg; obtain ⟨hcz20_0, hcz20_1, hcz20_2, hfz20_0, hfz20_1, hfz20_2⟩ := cells3 BK513.out) | ((with_reducible refine gate_store (t := 26) (p := 5) rfl ?_); refine store_event (t := 26) (p := 5) (v := ?vo_w21) (w1 := (((w19.setCell ⟨gb513, 0, none⟩ (.int .u8 ((rd_T26 l0 x4_1).f0))).setCell ⟨gb513, 1, none⟩ (.int .u64 ((rd_T26 l0 x4_1).f1))).setCell ⟨gb513, 2, none⟩ (.slice A512_2 ((rd_T26 l0 x4_1).f2).length c512_2))) ?hg ?ho ?hn ?hr ?_; (case ho => rfl); (case hg => rfl); (case hn => rfl); (case hr => first | (go_simp; done) | (go_simp; rfl)); intro w21 hw; have n0_ : Aside0 (Kd.V k26 26 w21 w.heap.size (fun k_ => (P0_ k_ ∨ w.heap.size ≤ k_) ∧ some k_ ≠ (u3 : Value).ownBlock ∧ k_ ≠ gb513) (.slice (some ad512) l0.length c0) l0) := ⟨(by rw [hw]; exact (by refine upV ?_; exact Kd.V_mono (garV3 (g := gb513) (Kd.V_mono HO_0.out (fun k_ hk => (⟨hk, hk.2⟩ : _ ∧ k_ ≠ gb513))) 0 (.int .u8 ((rd_T26 l0 x4_1).f0)) 1 (.int .u64 ((rd_T26 l0 x4_1).f1)) 2 (.slice A512_2 ((rd_T26 l0 x4_1).f2).length c512_2)) (fun _ hk => ⟨hk.1.1.1, ⟨hk.1.1.2, hk.1.2⟩⟩)))⟩; have n1_ : Aside0 (Kd.N k26 26 w21 w.heap.size (fun k_ => (P0_ k_ ∨ w.heap.size ≤ k_) ∧ k_ ≠ gb513) u3 x3_1) := ⟨(by rw [hw]; exact (by (with_reducible repeat (first | apply Kd.N_alloc | apply Kd.N_drewN | apply Kd.N_drew)); exact Kd.N_mono (Kd.N_far (p := ⟨gb513, 2, none⟩) (Kd.N_far (p := ⟨gb513, 1, none⟩) (Kd.N_far (p := ⟨gb513, 0, none⟩) (Kd.N_mono HO_3.out (fun k_ hk => (⟨hk, hk.2⟩ : _ ∧ k_ ≠ gb513))) (fun _ hk => hk.2) (.int .u8 ((rd_T26 l0 x4_1).f0))) (fun _ hk => hk.2) (.int .u64 ((rd_T26 l0 x4_1).f1))) (fun _ hk => hk.2) (.slice A512_2 ((rd_T26 l0 x4_1).f2).length c512_2)) (fun _ hk => ⟨hk.1.1, hk.1.2⟩)))⟩; have n2_ : Aside0 (Kd.V (Kd.int .u8) 5 w21 w.heap.size (fun k_ => (P0_ k_ ∨ w.heap.size ≤ k_) ∧ some k_ ≠ (u3 : Value).ownBlock ∧ k_ ≠ gb513) (.slice A512_2 ((rd_T26 l0 x4_1).f2).length c512_2) ((rd_T26 l0 x4_1).f2)) := ⟨(by rw [hw]; exact (by refine upV ?_; exact Kd.V_mono (garV3 (g := gb513) (Kd.V_mono HL512_2.out (fun k_ hk => (⟨hk, hk.2⟩ : _ ∧ k_ ≠ gb513))) 0 (.int .u8 ((rd_T26 l0 x4_1).f0)) 1 (.int .u64 ((rd_T26 l0 x4_1).f1)) 2 (.slice A512_2 ((rd_T26 l0 x4_1).f2).length c512_2)) (fun _ hk => ⟨hk.1.1.1, ⟨hk.1.1.2, hk.1.2⟩⟩)))⟩; have n3_ : Aside0 (w21.heap[gb513]? = some (.cells #[.int .u8 ((rd_T26 l0 x4_1).f0), .int .u64 ((rd_T26 l0 x4_1).f1), .slice A512_2 ((rd_T26 l0 x4_1).f2).length c512_2] 26 (0, 0))) := ⟨(by rw [hw]; exact (by refine upK ?_; refine blk_put (cs := #[.int .u8 ((rd_T26 l0 x4_1).f0), .int .u64 ((rd_T26 l0 x4_1).f1), .slice none 0 0]) ?_ 2 _ rfl; refine upK ?_; refine blk_put (cs := #[.int .u8 ((rd_T26 l0 x4_1).f0), .int .u64 0, .slice none 0 0]) ?_ 1 _ rfl; refine upK ?_; refine blk_put (cs := #[.int .u8 0, .int .u64 0, .slice none 0 0]) ?_ 0 _ rfl; refine upK ?_; exact BK513.out))⟩; have n4_ : Aside0 (Below w.heap.size w w21) := ⟨(by rw [hw]; exact (upB1 HB.out GE513.out))⟩; clear hw; clear HO_0; clear HO_3; clear HL512_2; clear BK513; clear HB; have HO_0 := n0_; have HO_3 := n1_; have HL512_2 := n2_; have BK513 := n3_; have HB := n4_; clear n0_ n1_ n2_ n3_ n4_; obtain ⟨hcz22_0, hcz22_1, hcz22_2, hfz22_0, hfz22_1, hfz22_2⟩ := cells3 BK513.out) | ((with_reducible refine gate_builtin (b := .append) (xs := #[.tmp 28, .tmp 30]) rfl ?_); at_builtin; refine Kd.N_append k26 (w0 := w) w.heap.size rfl (.tmp 28) (.tmp 30) 39 26 (.agg #[(.int .u8 0), (.int .u64 0), (.slice none 0 0)]) 40 rfl Try.underlying39 info26 rfl (by decide) (by omega) u3 x3_1 (⟨(rd_T26 l0 x4_1).f0, (rd_T26 l0 x4_1).f1, (rd_T26 l0 x4_1).f2⟩ : S26) [.int .u8 ((rd_T26 l0 x4_1).f0), .int .u64 ((rd_T26 l0 x4_1).f1), .slice A512_2 ((rd_T26 l0 x4_1).f2).length c512_2] (fun k_ => (P0_ k_ ∨ w.heap.size ≤ k_) ∧ k_ ≠ gb513) (fun k_ => ((fun k_ => (P0_ k_ ∨ w.heap.size ≤ k_) ∧ k_ ≠ gb513)) k_ ∧ some k_ ≠ (u3 : Value).ownBlock) rfl rfl ?aP (fun _ hk => hk) ?aF ?aO ?aB ?aS ?aL ?_; (case aP => exact (k26_mkF _ _ (⟨(rd_T26 l0 x4_1).f0, (rd_T26 l0 x4_1).f1, (rd_T26 l0 x4_1).f2⟩ : S26) (Kd.V_reads' (Kd.V_mono (ok' := (fun k_ => ((fun k_ => (P0_ k_ ∨ w.heap.size ≤ k_) ∧ k_ ≠ gb513)) k_ ∧ some k_ ≠ (u3 : Value).ownBlock)) (HL512_2.out) (fun k_ hk => ⟨⟨hk.1, hk.2.2⟩, hk.2.1⟩))).2.1 (Kd.V_F (Kd.V_mono (ok' := (fun k_ => ((fun k_ => (P0_ k_ ∨ w.heap.size ≤ k_) ∧ k_ ≠ gb513)) k_ ∧ some k_ ≠ (u3 : Value).ownBlock)) (HL512_2.out) (fun k_ hk => ⟨⟨hk.1, hk.2.2⟩, hk.2.1⟩))))); (case aB => exact (upB1 HB.out GE513.out)); (case aF => exact (fun k_ hk => ⟨(.inr (Nat.le_trans (below_size (upB1 HB.out GE513.out)) hk)), Kd.freshB (upK BK513.out) k_ hk⟩)); (case aO => exact (by (with_reducible repeat (first | apply Kd.N_alloc | apply Kd.N_drewN | apply Kd.N_drew)); exact HO_3.out)); (case aS => exact (below_size (upB1 HB.out GE513.out))); (case aL => have := LMc18.out; omega); intro v523 w23 ho hb hg hat; rw [← Ny522.out] at ho; have n0_ := Aside0.mk (Kd.V_afterv (ok := (fun k_ => (P0_ k_ ∨ w.heap.size ≤ k_) ∧ k_ ≠ gb513)) (by refine upV ?_; exact Kd.V_mono HO_0.out (fun _ hk => ⟨⟨hk.1, hk.2.2⟩, hk.2.1⟩)) hg hat); have n1_ := Aside0.mk (Kd.V_afterv (ok := (fun k_ => (P0_ k_ ∨ w.heap.size ≤ k_) ∧ k_ ≠ gb513)) (by refine upV ?_; exact Kd.V_mono HL512_2.out (fun _ hk => ⟨⟨hk.1, hk.2.2⟩, hk.2.1⟩)) hg hat); have n2_ := Aside0.mk (blk_grown (upK BK513.out) hg (Kd.N_away HO_3.out (fun _ hk => hk.2))); have n3_ := Aside0.mk (hb); have n4_ := Aside0.mk (ho); clear HO_0; clear HL512_2; clear BK513; clear HB; clear HO_3; have HO_0 := n0_; have HL512_2 := n1_; have BK513 := n2_; have HB := n3_; have HO524 := n4_; clear n0_ n1_ n2_ n3_ n4_; clear ho hb hg hat))
                    go_roundg kj1
                    case measure => have := HK1.out; have := HJ1.out; omega
                    case rel => exact ⟨(y522), (wrap64 (x4_1 + 1)), (by first | rfl | (simp; done) | (simp [*]; done)), H', ⟨by have := HK1.out; have := HJ1.out; omega⟩, ⟨by refine upV ?_; exact Kd.V_mono HO_0.out (fun _ hk => ⟨hk.1.1, hk.2⟩)⟩, ⟨by (with_reducible repeat (first | apply Kd.N_alloc | apply Kd.N_drewN | apply Kd.N_drew)); exact Kd.N_mono HO524.out (fun _ hk => hk.1)⟩, ⟨upB1 HB.out GE513.out⟩⟩
                  · rw [if_neg c18] at H
                    exact absurd H (by simp)
              · rw [if_neg c6] at H
                exact absurd H (by simp)
            · rw [if_neg c5] at H
              exact absurd H (by simp)
          · replace c4 := Bool.eq_false_iff.mpr c4
            subst c4
            have H1 : (some x3_1) = some r := by rw [if_neg (show ¬ (false = true) by decide)] at H; exact H
            clear H
            have H := H1
            clear H1
            obtain rfl := Option.some.inj H
            go_wp2
            go_ret
            exact ⟨_, by first | rfl | (simp [errW_none, errW_some] <;> rfl) | (simp [*, errW_none, errW_some] <;> rfl), by (with_reducible repeat (first | apply Kd.N_alloc | apply Kd.N_drewN | apply Kd.N_drew)); exact HO_3.out, upB0 HB.out⟩

end Go.Proofs.Ytcajcbeioilgmaa.F
