/- TreeFew: of any digests (not more than 300 of 4,096 and fewer are looked at), any places (the first eight) and any digest: where it is put at these places, not more pairs are held against each other than four for each place and level (and one), not more places are found than were put, and each of them lies within the tree and differs. No condition. -/
import Derived.Test.YtbmmddngadnofaaTreeFewLaw
import Derived.Test.YtbmmddngadnofaaFx41
namespace Go.Proofs.Ytbmmddngadnofaa.Pure
open Go.RowKit Go.Proofs.Ytbmmddngadnofaa.F Go.Proofs.Ytbmmddngadnofaa.Tree Go.Proofs.Ytbmmddngadnofaa.Octets Go.Proofs.YtbmmddngadnofaaW.PrintWords Go.Proofs.YtbmmddngadnofaaW.PrintLast Go.Proofs.YtbmmddngadnofaaW.PrintMore

theorem few_found (l : List Int) (u : List (List Int)) (ps : List Nat) (hu : 0 < u.length) (hlen : (rd_L1 u 0).length = l.length) (_ : l.length ≤ 4096) (hps : ps.length ≤ 1000) (hin : ∀ j ∈ ps, j < l.length ∧ rd (rd_L1 u 0) (j : Int) ≠ rd l (j : Int)) (d : Nat) : ∀ i : Nat, i + d = ps.length →
    Ev (fun k => plinthlaw25_TreeFew.l1 k l (toI ps) (i : Int) u) true := by
  induction d with
  | zero =>
    intro i h
    refine Ev.step (f := fun _ => some true) (fun k => ?_) (Ev.now _)
    rw [plinthlaw25_TreeFew.l1, if_neg (by rw [toI_length]; omega)]
  | succ d ih =>
    intro i h
    have hi : i < ps.length := by omega
    have hp := hin _ (List.getElem_mem hi)
    refine Ev.step (f := fun k => plinthlaw25_TreeFew.l1 k l (toI ps) ((i + 1 : Nat) : Int) u) (fun k => ?_) (ih (i + 1) (by omega))
    rw [plinthlaw25_TreeFew.l1, if_pos (by rw [toI_length]; omega), if_pos (by omega), rd_toI ps i hi, if_neg (by omega), if_neg (by omega), if_pos (by omega), if_pos (by omega), if_pos (by omega), if_pos (by omega), if_neg hp.2, wrap_next i 1000 (by omega) (by omega)]
theorem four_n (n m : Nat) (hn : n ≤ 8) (hm : 1 ≤ m ∧ m ≤ 7) : wrap64 (1 + wrap64 (wrap64 (4 * (n : Int)) * wrap64 ((m : Int) - 1))) = ((1 + 4 * (n * (m - 1)) : Nat) : Int) := by
  rw [last_in m hm.1 (by omega), show wrap64 (4 * (n : Int)) = ((4 * n : Nat) : Int) by unfold wrap64; omega]
  have h1 : n * (m - 1) ≤ 8 * 6 := Nat.mul_le_mul hn (by omega)
  have e : ((4 * n : Nat) : Int) * ((m - 1 : Nat) : Int) = ((4 * (n * (m - 1)) : Nat) : Int) := by
    rw [← Int.natCast_mul, Nat.mul_assoc]
  rw [e]
  generalize n * (m - 1) = q at h1
  rw [show wrap64 ((4 * q : Nat) : Int) = ((4 * q : Nat) : Int) by unfold wrap64; omega]
  unfold wrap64
  omega
theorem few_end (l m : List Int) (ts : List Nat) (n : Nat) (hn : ts.length = n) (hn8 : n ≤ 8) (hl : 1 ≤ l.length ∧ l.length ≤ 4096) (hd : isDig l) (hm : isDig m) (ha : agree ts l m) (p : List Int) (x i : Int) :
    Ev (fun k => plinthlaw25_TreeFew.j1 k l p x (n : Int) i false (tree l) (tree m)) true := by
  have hml : 1 ≤ m.length ∧ m.length ≤ 4096 := by rw [← ha.1]; exact hl
  have hs := tree_slim hd hl.2
  have hs2 := tree_slim hm hml.2
  have hdiff := Diff_ (tree l) (tree m) (slim_thin hs) (fun r hr => (hs.2 r hr).1) (slim_thin hs2) (fun r hr => (hs2.2 r hr).1)
  rw [diffOf, if_pos ⟨good_tree hl, good_tree hml, ha.1⟩] at hdiff
  have hsame := good_same (good_tree hl) (good_tree hml) ha.1
  have hlen := good_length (good_tree hl)
  have hfl := Nat.le_trans (fnd_tau ha ((tree l).length - 1) 0) (tau_le ts _ _)
  have hct := cnt_tau ha ((tree l).length - 1) 0
  have hmul := Nat.mul_le_mul_left ((tree l).length - 1) (tau_le ts ((tree l).length - 1) 0)
  have hcn : cnt (tree l) (tree m) ((tree l).length - 1) 0 ≤ 1 + 4 * (n * ((tree l).length - 1)) := by
    rw [hn, Nat.mul_comm] at hmul
    rw [Nat.mul_comm] at hct
    rw [Nat.mul_comm ((tree l).length - 1)] at hct hmul
    omega
  refine Ev.step (f := fun k => (tree_Diff.f k (tree l) (tree m)).bind fun bt => (if bt.2.2 = 0 then (if ((tree l).length : Int) = ((tree m).length : Int) then (if 0 < ((tree m).length : Int) then (if ((rd_L1 (tree m) 0).length : Int) = (l.length : Int) then (if bt.2.1 > (wrap64 (1 + (wrap64 ((wrap64 (4 * (n : Int))) * (wrap64 (((tree l).length : Int) - 1)))))) then (plinthlaw25_TreeFew.j2 k l bt.1 true (tree m)) else (plinthlaw25_TreeFew.j2 k l bt.1 (decide ((bt.1.length : Int) > (n : Int))) (tree m))) else (plinthlaw25_TreeFew.j2 k l bt.1 true (tree m))) else (none)) else (plinthlaw25_TreeFew.j2 k l bt.1 true (tree m))) else (plinthlaw25_TreeFew.j2 k l bt.1 true (tree m)))) (fun k => ?_) ?_
  · rw [plinthlaw25_TreeFew.j1, if_neg (by decide)]
  · refine Ev.bind hdiff ?_
    have e1 : ((rd_L1 (tree m) 0).length : Int) = (l.length : Int) := congrArg Nat.cast ha.1.symm
    simp only [if_true, if_pos (show ((tree l).length : Int) = ((tree m).length : Int) from congrArg Nat.cast hsame.1), if_pos (show 0 < ((tree m).length : Int) by omega), e1, four_n n (tree l).length hn8 hlen, toI_length, if_neg (show ¬ ((cnt (tree l) (tree m) ((tree l).length - 1) 0 : Nat) : Int) > ((1 + 4 * (n * ((tree l).length - 1)) : Nat) : Int) by omega), decide_eq_false (show ¬ ((fnd (tree l) (tree m) ((tree l).length - 1) 0).length : Int) > (n : Int) by omega)]
    refine Ev.step (f := fun k => plinthlaw25_TreeFew.l1 k l (toI (fnd (tree l) (tree m) ((tree l).length - 1) 0)) ((0 : Nat) : Int) (tree m)) (fun k => ?_) ?_
    · rw [plinthlaw25_TreeFew.j2, if_neg (by decide)]
      rfl
    · refine few_found l (tree m) _ (by omega) ha.1.symm hl.2 (by omega) (fun j hj => ?_) _ 0 (Nat.zero_add _)
      have h := fnd_in (tree l) (tree m) _ 0 (top_place (good_tree hl)) j hj
      refine ⟨h.1, fun he => ?_⟩
      have h2 := h.2
      simp only [ne, bne_iff_ne] at h2
      exact h2 he.symm
theorem few_from (l : List Int) (hl : 1 ≤ l.length ∧ l.length ≤ 4096) (hd : isDig l) (x : Int) (hx : 0 ≤ x ∧ x ≤ 4294967295) (p : List Int) (_ : p.length ≤ 9223372036854775807) (hp : ∀ i ∈ p, 0 ≤ i ∧ i ≤ 65535) (r : Nat) : ∀ (n : Nat) (ts : List Nat) (m : List Int), n + r = 8 → ts.length = n → isDig m → agree ts l m →
    Ev (fun k => plinthlaw25_TreeFew.l0 k l p x (n : Int) (n : Int) (tree l) (tree m)) true := by
  induction r with
  | zero =>
    intro n ts m hn hts hm ha
    obtain rfl : n = 8 := by omega
    refine Ev.step (f := fun k => plinthlaw25_TreeFew.j1 k l p x ((8 : Nat) : Int) ((8 : Nat) : Int) false (tree l) (tree m)) (fun k => ?_) (few_end l m ts 8 hts (Nat.le_refl _) hl hd hm ha p x _)
    rw [plinthlaw25_TreeFew.l0, show decide (((8 : Nat) : Int) < 8) = false from rfl]
    split <;> rfl
  | succ r ih =>
    intro n ts m hn hts hm ha
    have hml : 1 ≤ m.length ∧ m.length ≤ 4096 := by rw [← ha.1]; exact hl
    by_cases hlt : n < p.length
    · obtain ⟨i, hi, hie⟩ : ∃ i : Nat, i < l.length ∧ Int.tmod (wrap64 (rd p (n : Int))) (l.length : Int) = (i : Int) := by
        have hr := hp (rd p (n : Int)) (by rw [rd_nat p n hlt]; exact List.getElem_mem hlt)
        refine ⟨(rd p (n : Int)).toNat % l.length, Nat.mod_lt _ (by omega), ?_⟩
        rw [wrap_in _ (by omega) (by omega)]
        obtain ⟨q, hq⟩ : ∃ q : Nat, rd p (n : Int) = (q : Int) := ⟨(rd p (n : Int)).toNat, by omega⟩
        rw [hq, Int.toNat_natCast]
        exact Int.ofNat_tmod q l.length |>.symm
      have hs2 := tree_slim hm hml.2
      have hput := PutT_ (tree m) (slim_thin hs2) (fun r hr => (hs2.2 r hr).1) (i : Int) x hx
      rw [putT, if_pos (good_tree hml), base_tree, if_pos (by rw [← ha.1]; omega), Int.toNat_natCast] at hput
      refine Ev.step (f := fun k => plinthlaw25_TreeFew.j1 k l p x (n : Int) (n : Int) true (tree l) (tree m)) (fun k => ?_) ?_
      · rw [plinthlaw25_TreeFew.l0, if_pos (by omega), decide_eq_true (by omega)]
      · refine Ev.step (f := fun k => (tree_Put.f k (tree m) (i : Int) x).bind fun bt => (if bt.2 = 0 then (plinthlaw25_TreeFew.l0 k l p x ((n + 1 : Nat) : Int) ((n + 1 : Nat) : Int) (tree l) bt.1) else (some false))) (fun k => ?_) ?_
        · rw [plinthlaw25_TreeFew.j1, if_pos rfl, if_pos (by omega), if_pos (by omega), if_neg (by omega), hie, wrap_next n 1000 (by omega) (by omega)]
        · refine Ev.bind hput ?_
          simp only [if_true]
          exact ih (n + 1) (i :: ts) _ (by omega) (by rw [List.length_cons, hts]) (isDig_set hm i hx) (agree_set ha i x)
    · refine Ev.step (f := fun k => plinthlaw25_TreeFew.j1 k l p x (n : Int) (n : Int) false (tree l) (tree m)) (fun k => ?_) (few_end l m ts n hts (by omega) hl hd hm ha p x _)
      rw [plinthlaw25_TreeFew.l0, if_neg (by omega)]
theorem TreeFew : plinthlaw25_TreeFew.Pure := by
  intro l0 l1 a2 _ _ hb _ hb2 hp ha2
  have hx := bounds_u32 ha2
  refine Ev.rounds (g := fun k => plinthlaw25_TreeFew.f k l0 l1 a2) ?_
  unfold plinthlaw25_TreeFew.f
  refine Ev.bind awake_ ?_
  simp only [if_true, few_, Option.bind_some]
  have hd := few_dig (isDig_of hb)
  generalize fewOf l0 = l at hd
  refine Ev.bind (Make_ l (fun _ => hd)) ?_
  unfold makeOf
  by_cases hl : 1 ≤ l.length ∧ l.length ≤ 4096
  · simp only [if_pos hl, if_true]
    exact few_from l hl hd a2 hx l1 (by omega) (fun i hi => bounds_u16 (hp i hi)) 8 0 [] l rfl rfl hd (agree_refl l)
  · simp only [if_neg hl]
    by_cases h1 : (l.length : Int) < 1
    · simp only [if_pos h1]
      exact Ev.now _
    · simp only [if_neg h1, decide_eq_true (show (l.length : Int) > 4096 by omega)]
      exact Ev.now _
end Go.Proofs.Ytbmmddngadnofaa.Pure
