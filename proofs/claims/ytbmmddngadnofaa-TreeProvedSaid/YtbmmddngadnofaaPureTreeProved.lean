/- TreeProved: of any digests (not more than 300 of 4,096 and fewer are looked at), any place and any other digest: the place's proof holds, not of another digest, and not with another digest of all. No condition. -/
import Derived.Test.YtbmmddngadnofaaPlain
import Derived.Test.YtbmmddngadnofaaFx31
namespace Go.Proofs.Ytbmmddngadnofaa.Pure
open Go.RowKit Go.Proofs.Ytbmmddngadnofaa.F Go.Proofs.Ytbmmddngadnofaa.Tree Go.Proofs.Ytbmmddngadnofaa.Octets Go.Proofs.YtbmmddngadnofaaW.PrintWords Go.Proofs.YtbmmddngadnofaaW.PrintLast Go.Proofs.YtbmmddngadnofaaW.PrintMore

theorem xor_other (a x : Int) (_ : 0 ≤ a ∧ a ≤ 4294967295) (hx : 0 ≤ x ∧ x ≤ 4294967295) (h0 : x ≠ 0) : Go.bits .xor .u32 a x ≠ a := by
  rw [Crc.xor_I]
  intro h
  have h1 : BitVec.ofInt 32 a ^^^ BitVec.ofInt 32 x = BitVec.ofInt 32 a := by
    have := congrArg (BitVec.ofInt 32) h
    rwa [Crc.ofInt_I] at this
  have h2 : BitVec.ofInt 32 x = 0#32 := by
    have := congrArg (fun z => BitVec.ofInt 32 a ^^^ z) h1
    simpa [← BitVec.xor_assoc] using this
  have h3 := congrArg BitVec.toNat h2
  rw [BitVec.toNat_ofInt] at h3
  simp at h3
  omega
theorem TreeProved : plinthlaw25_TreeProved.Pure := by
  intro l0 a1 a2 _ _ hb ha1 ha2
  have hx := bounds_u32 ha2
  have hi := bounds_u16 ha1
  refine Ev.rounds (g := fun k => plinthlaw25_TreeProved.f k l0 a1 a2) ?_
  unfold plinthlaw25_TreeProved.f
  refine Ev.bind awake_ ?_
  simp only [if_true, few_, Option.bind_some]
  have hd := few_dig (isDig_of hb)
  generalize fewOf l0 = l at hd
  refine Ev.bind (Make_ l (fun _ => hd)) ?_
  unfold makeOf
  by_cases hl : 1 ≤ l.length ∧ l.length ≤ 4096
  · simp only [if_pos hl, if_true, if_neg (show ¬ (l.length : Int) = 0 by omega)]
    obtain ⟨i, hil, hie⟩ : ∃ i : Nat, i < l.length ∧ Int.tmod (wrap64 a1) (l.length : Int) = (i : Int) := by
      refine ⟨a1.toNat % l.length, Nat.mod_lt _ (by omega), ?_⟩
      rw [wrap_in a1 (by omega) (by omega)]
      obtain ⟨m, rfl⟩ : ∃ m : Nat, a1 = (m : Int) := ⟨a1.toNat, by omega⟩
      rw [Int.toNat_natCast]
      exact Int.ofNat_tmod m l.length |>.symm
    have hs := tree_slim hd hl.2
    have ht := slim_thin hs
    have htd : ∀ r ∈ tree l, isDig r := fun r hr => (hs.2 r hr).1
    have hg := good_tree hl
    rw [hie]
    have hp := Prove_ (tree l) ht htd (i : Int)
    rw [proveOf, if_pos hg, base_tree, if_pos (by omega)] at hp
    have hr := Root_ (tree l) ht htd
    rw [rootOf, if_pos hg] at hr
    refine Ev.bind hp ?_
    refine Ev.bind hr ?_
    simp only [if_true, if_pos (show (0 : Int) ≤ (i : Int) by omega), if_pos (show (i : Int) < (l.length : Int) by omega), Int.toNat_natCast]
    have hps := path_slim (below (tree l)) (by have := hs.1; rw [below, List.length_take]; omega) (fun r hr => htd r (List.mem_of_mem_take hr)) i
    have hq := fun root d => Proved_ root (l.length : Int) d (i : Int) (path (below (tree l)) i) hps
    simp only [provedOf, if_pos (show (1 ≤ (l.length : Int) ∧ (l.length : Int) ≤ 4096) ∧ 0 ≤ (i : Int) ∧ (i : Int) < (l.length : Int) by omega), Int.toNat_natCast] at hq
    have hv := fun root => pv_top 6 l i root hil (by omega)
    have hw := fun d (h : d ≠ rd l (i : Int)) => pv_other 6 l i d hil h
    have h1 := hq (top (tree l)) (rd l (i : Int))
    rw [show pv 7 (path (below (tree l)) i) l.length i (rd l (i : Int)) (top (tree l)) = 0 by rw [below_last]; exact (hv _).trans (if_pos rfl)] at h1
    refine Ev.bind h1 ?_
    have hbad : ((0 : Int) != 0) = false := by decide
    rw [hbad]
    have hri : 0 ≤ rd l (i : Int) ∧ rd l (i : Int) ≤ 4294967295 := rd_dig hd i hil
    refine Ev.step (f := fun k => if a2 = 0 then some true else (tree_Proved.f k (top (tree l)) (l.length : Int) (Go.bits .xor .u32 (rd l (i : Int)) a2) (i : Int) (path (below (tree l)) i)).bind fun t399 => if t399 = 251 then (tree_Proved.f k (Go.bits .xor .u32 (top (tree l)) a2) (l.length : Int) (rd l (i : Int)) (i : Int) (path (below (tree l)) i)).bind fun t401 => some (t401 == 251) else some false) (fun k => ?_) ?_
    · rw [plinthlaw25_TreeProved.j0, if_neg (by decide), if_pos (show (0 : Int) ≤ (i : Int) by omega), if_pos (show (i : Int) < (l.length : Int) by omega)]
    · by_cases h0 : a2 = 0
      · simp only [if_pos h0]
        exact Ev.now _
      · simp only [if_neg h0]
        have h2 := hq (top (tree l)) (Go.bits .xor .u32 (rd l (i : Int)) a2)
        rw [show pv 7 (path (below (tree l)) i) l.length i (Go.bits .xor .u32 (rd l (i : Int)) a2) (top (tree l)) = 251 by rw [below_last]; exact hw _ (xor_other _ _ hri hx h0)] at h2
        refine Ev.bind h2 ?_
        have h3 := hq (Go.bits .xor .u32 (top (tree l)) a2) (rd l (i : Int))
        have htop : 0 ≤ top (tree l) ∧ top (tree l) ≤ 4294967295 := by
          have hgt := good_top hg
          rw [← hgt.2]
          have hn := good_length hg
          have := rd_dig (l := rd_L1 (tree l) (((tree l).length - 1 : Nat) : Int)) (htd _ (by rw [rd_L1_nat _ _ (by omega)]; exact List.getElem_mem _)) 0 hgt.1
          exact this
        rw [show pv 7 (path (below (tree l)) i) l.length i (rd l (i : Int)) (Go.bits .xor .u32 (top (tree l)) a2) = 251 by rw [below_last]; exact (hv _).trans (if_neg (xor_other _ _ htop hx h0))] at h3
        simp only [if_true]
        exact Ev.bind (f := fun _ t => some (t == 251)) h3 (Ev.now _)
  · simp only [if_neg hl]
    exact Ev.now _
end Go.Proofs.Ytbmmddngadnofaa.Pure
