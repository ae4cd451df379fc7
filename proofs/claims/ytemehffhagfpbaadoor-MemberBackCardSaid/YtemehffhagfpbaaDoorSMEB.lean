/- Contracts of this program's functions. -/
import Derived.Test.YtemehffhagfpbaaDoorSMEA
set_option maxHeartbeats 4000000
set_option maxRecDepth 100000
set_option linter.unusedVariables false
set_option linter.unusedSimpArgs false
namespace Go.Proofs.Tryd
open Go Go.Ot
attribute [local irreducible] wpK wpS seqK blockK loopF regK meetK OpSpec Le rdS lpW rdW got mayS mayW putS putW nb u64 PutW mwB sha rcF hdF hsh RG inF chC fl lkT grR
theorem back_good (Γ : Gl) (hE : EG Γ) (r : Rc) (cut at_ : UInt16) (b_ : UInt8) (hl : r.wraps.length ≤ 9223372036854775807) : Go.Ot.Good Γ prog 4 [.agg [.t (num r.seq), .t (txt r.prev), .t (num r.kind), .t (num r.dev), .t (.sl r.wraps.length (r.wraps.flatMap wpT)), .t (txt r.tag)], .t (w16 cut), .t (w16 at_), .t (w8 b_)] [] (.t (bol true)) [] [] := by
  refine a_body F.mix func4 (by rfl) ntmps4 ?_
  refine k_seq ?_
  refine k_region rfl ?_
  refine a_op ?_
  refine a_op ?_
  refine s_nil (r_false ?_)
  refine q_next ?_
  refine k_seq ?_
  refine k_seq ?_
  refine k_region rfl ?_
  have h4 : grR r = true ∨ (grR r = false ∧ b_ = 0) ∨ (grR r = false ∧ b_ ≠ 0 ∧ ¬ rcP r) ∨ (grR r = false ∧ b_ ≠ 0 ∧ rcP r) := by
    rcases grR r with _ | _ <;> by_cases hb : b_ = 0 <;> by_cases hp : rcP r <;> simp [hb, hp]
  rcases h4 with ha | ⟨ha, rfl⟩ | ⟨ha, hb, hp⟩ | ⟨ha, hb, hp⟩
  · try (have hbn : b_.toNat ≠ 0 := fun e => hb (UInt8.toNat_inj.1 e))
    refine a_op ?_
    refine a_call [] false ((by have h := great_good Γ r hl; rw [ha] at h; exact h)) ?_
    refine a_op ?_
    refine a_no ?_
    refine a_no ?_
    refine a_op ?_
    refine a_op ?_
    refine a_no ?_
    refine a_no ?_
    refine a_no ?_
    refine a_op ?_
    refine s_nil (r_false ?_)
    refine q_next ?_
    refine a_true ?_
    refine k_seq ?_
    refine k_region rfl ?_
    refine a_call [] false (awake_good Γ hE) ?_
    refine a_op ?_
    refine s_nil (r_false ?_)
    refine q_next ?_
    refine k_ret ?_
    refine q_seq_ret ?_
    refine ⟨.inr rfl, a_ret [] (by rw [results4]) ?_ ?_ ?_⟩ <;> simp [-List.map_set, -List.map_replicate, -List.reduceReplicate, -List.map_map, -List.map_drop, -List.map_take, num, bol, txt, w8, w16, w32, w64, lst, cls, rowO, boxO, List.take_of_length_le, Wr.cellsL_len, wA, Wr.k_mk, Wr.n_mk, Wr.s_mk, Wr.l_mk, Wr.cellsL, Wr.z_eq, rcT, wpT]
  · try (have hbn : b_.toNat ≠ 0 := fun e => hb (UInt8.toNat_inj.1 e))
    refine a_op ?_
    refine a_call [] false ((by have h := great_good Γ r hl; rw [ha] at h; exact h)) ?_
    refine a_op ?_
    refine a_go ?_
    refine a_go ?_
    refine a_op ?_
    refine a_op ?_
    refine a_no ?_
    refine a_no ?_
    refine a_no ?_
    refine a_op ?_
    refine s_nil (r_false ?_)
    refine q_next ?_
    refine a_true ?_
    refine k_seq ?_
    refine k_region rfl ?_
    refine a_call [] false (awake_good Γ hE) ?_
    refine a_op ?_
    refine s_nil (r_false ?_)
    refine q_next ?_
    refine k_ret ?_
    refine q_seq_ret ?_
    refine ⟨.inr rfl, a_ret [] (by rw [results4]) ?_ ?_ ?_⟩ <;> simp [-List.map_set, -List.map_replicate, -List.reduceReplicate, -List.map_map, -List.map_drop, -List.map_take, num, bol, txt, w8, w16, w32, w64, lst, cls, rowO, boxO, List.take_of_length_le, Wr.cellsL_len, wA, Wr.k_mk, Wr.n_mk, Wr.s_mk, Wr.l_mk, Wr.cellsL, Wr.z_eq, rcT, wpT]
  · try (have hbn : b_.toNat ≠ 0 := fun e => hb (UInt8.toNat_inj.1 e))
    refine a_op ?_
    refine a_call [] false ((by have h := great_good Γ r hl; rw [ha] at h; exact h)) ?_
    refine a_op ?_
    refine a_go ?_
    refine a_go ?_
    refine a_op ?_
    refine a_op ?_
    refine a_go ?_
    refine a_callgo [] false ((by have h := rmayR_good Γ r hl; rw [rcB_f hp] at h; exact h)) ?_
    refine a_go ?_
    refine a_op ?_
    refine s_nil (r_false ?_)
    refine q_next ?_
    refine a_true ?_
    refine k_seq ?_
    refine k_region rfl ?_
    refine a_call [] false (awake_good Γ hE) ?_
    refine a_op ?_
    refine s_nil (r_false ?_)
    refine q_next ?_
    refine k_ret ?_
    refine q_seq_ret ?_
    refine ⟨.inr rfl, a_ret [] (by rw [results4]) ?_ ?_ ?_⟩ <;> simp [-List.map_set, -List.map_replicate, -List.reduceReplicate, -List.map_map, -List.map_drop, -List.map_take, num, bol, txt, w8, w16, w32, w64, lst, cls, rowO, boxO, List.take_of_length_le, Wr.cellsL_len, wA, Wr.k_mk, Wr.n_mk, Wr.s_mk, Wr.l_mk, Wr.cellsL, Wr.z_eq, rcT, wpT]
  · try (have hbn : b_.toNat ≠ 0 := fun e => hb (UInt8.toNat_inj.1 e))
    refine a_op ?_
    refine a_call [] false ((by have h := great_good Γ r hl; rw [ha] at h; exact h)) ?_
    refine a_op ?_
    refine a_go ?_
    refine a_go ?_
    refine a_op ?_
    refine a_op ?_
    refine a_go ?_
    refine a_callgo [] false ((by have h := rmayR_good Γ r hl; rw [rcB_t hp] at h; exact h)) ?_
    refine a_go ?_
    refine a_op ?_
    refine s_nil (r_false ?_)
    refine q_next ?_
    refine a_false ?_
    refine k_skip ?_
    refine q_next ?_
    refine k_seq ?_
    refine k_region rfl ?_
    have hc16 := UInt16.toNat_lt cut
    have ha16 := UInt16.toNat_lt at_
    have h2k := rcF_len r
    obtain ⟨q1, q2, q3, q4⟩ := rc_back hp
    refine a_op ?_
    refine a_call [] false (rput_good Γ r hl) ?_
    refine a_op ?_
    refine s_nil (r_false ?_)
    refine q_next ?_
    refine k_seq ?_
    refine k_region rfl ?_
    refine a_op ?_
    refine a_call [] true ((by have h := rget_good Γ hE (rcF r) (by omega); rw [q1] at h; exact h)) ?_
    iterate 6 refine a_op ?_
    refine s_nil (r_false ?_)
    refine q_next ?_
    refine k_seq ?_
    refine k_seq ?_
    refine k_region rfl ?_
    iterate 3 refine a_op ?_
    refine a_go ?_
    refine a_go ?_
    refine a_callgo [] false ((by have h := sameR_good Γ r r hl hl; rw [decide_eq_true rfl] at h; exact h)) ?_
    refine a_go ?_
    refine a_op ?_
    refine a_op ?_
    refine a_go ?_
    refine a_go (hs := by (simp (disch := first | omega | (simp only [List.length_drop, List.length_take, List.length_map, List.length_append, List.length_cons, List.length_nil, List.length_replicate, List.length_set] <;> omega) | (simp only [push_cast] <;> omega) | fail) only [push_cast, reduceCtorEq, Nat.reduceAdd, Nat.reduceSub, Nat.reduceMul, Nat.reduceEqDiff, Nat.reduceLT, Nat.reduceLeDiff, Nat.reduceMod, Nat.reduceDiv, Int.reduceLE, Int.reduceLT, Int.reduceEq, Int.reduceToNat, Int.reduceAdd, Int.reduceSub, Int.reduceMul, Int.reduceNeg, q2] <;> rfl)) ?_
    refine a_op ?_
    refine s_nil (r_false ?_)
    refine q_next ?_
    refine a_false ?_
    refine k_skip ?_
    refine q_next ?_
    refine k_seq ?_
    refine k_region rfl ?_
    have hpos : 0 < (rcF r).length := List.length_pos_iff.2 (rc_ne hp)
    obtain ⟨X, hX⟩ : ∃ X, cut.toNat % (rcF r).length = X := ⟨_, rfl⟩
    obtain ⟨Y, hY⟩ : ∃ X, at_.toNat % (rcF r).length = X := ⟨_, rfl⟩
    have hlX : X < (rcF r).length := by rw [← hX]; exact Nat.mod_lt _ hpos
    have hlY : Y < (rcF r).length := by rw [← hY]; exact Nat.mod_lt _ hpos
    have tX := tmod_nat cut.toNat (rcF r).length
    have tY := tmod_nat at_.toNat (rcF r).length
    have uX := (Int.natCast_emod cut.toNat (rcF r).length).symm
    have uY := (Int.natCast_emod at_.toNat (rcF r).length).symm
    rw [hX] at tX uX
    rw [hY] at tY uY
    iterate 5 refine a_op ?_
    refine a_op (hs := by (simp (disch := first | omega | (simp only [List.length_drop, List.length_take, List.length_map, List.length_append, List.length_cons, List.length_nil, List.length_replicate, List.length_set] <;> omega) | (simp only [push_cast] <;> omega) | fail) only [push_cast, reduceCtorEq, Nat.reduceAdd, Nat.reduceSub, Nat.reduceMul, Nat.reduceEqDiff, Nat.reduceLT, Nat.reduceLeDiff, Nat.reduceMod, Nat.reduceDiv, Int.reduceLE, Int.reduceLT, Int.reduceEq, Int.reduceToNat, Int.reduceAdd, Int.reduceSub, Int.reduceMul, Int.reduceNeg, tX, uX] <;> rfl)) ?_
    refine a_op ?_
    refine a_call [] true ((by have h := rget_good Γ hE ((rcF r).take X) (by rw [List.length_take]; omega); rw [q3 X hlX] at h; exact h)) ?_
    iterate 6 refine a_op ?_
    refine s_nil (r_false ?_)
    refine q_next ?_
    refine k_seq ?_
    refine k_region rfl ?_
    refine a_op ?_
    refine a_op ?_
    refine a_call [] true ((by have h := rget_good Γ hE (rcF r ++ [0]) (by rw [List.length_append]; simp; omega); rw [q4] at h; exact h)) ?_
    iterate 6 refine a_op ?_
    refine s_nil (r_false ?_)
    refine q_next ?_
    refine k_seq ?_
    refine k_region rfl ?_
    iterate 3 refine a_op ?_
    refine s_nil (r_false ?_)
    refine q_next ?_
    refine k_seq ?_
    refine k_region rfl ?_
    iterate 5 refine a_op ?_
    refine a_op (hs := by (simp (disch := first | omega | (simp only [List.length_drop, List.length_take, List.length_map, List.length_append, List.length_cons, List.length_nil, List.length_replicate, List.length_set] <;> omega) | (simp only [push_cast] <;> omega) | fail) only [push_cast, reduceCtorEq, Nat.reduceAdd, Nat.reduceSub, Nat.reduceMul, Nat.reduceEqDiff, Nat.reduceLT, Nat.reduceLeDiff, Nat.reduceMod, Nat.reduceDiv, Int.reduceLE, Int.reduceLT, Int.reduceEq, Int.reduceToNat, Int.reduceAdd, Int.reduceSub, Int.reduceMul, Int.reduceNeg, tY, uY] <;> rfl)) ?_
    iterate 6 refine a_op ?_
    refine s_nil (r_false ?_)
    refine q_next ?_
    refine k_seq ?_
    refine k_region rfl ?_
    rcases hq : RG ((rcF r).set Y ((rcF r).getD Y 0 ^^^ b_)) with _ | q
    · skip
      refine a_op ?_
      first | refine a_text ?_ | refine a_texts ?_
      refine a_call [] true ((by have h := rget_good Γ hE (((rcF r).set Y ((rcF r).getD Y 0 ^^^ b_))) (by rw [List.length_set]; omega); rw [hq] at h; exact h)) ?_
      iterate 6 refine a_op ?_
      refine s_nil (r_false ?_)
      refine q_next ?_
      refine k_seq ?_
      refine k_region rfl ?_
      iterate 3 refine a_op ?_
      refine a_go ?_
      refine a_go ?_
      refine a_op ?_
      refine a_op ?_
      refine a_go ?_
      refine a_go ?_
      refine a_go ?_
      refine a_no ?_
      refine a_no ?_
      refine a_no ?_
      refine a_no ?_
      refine a_no ?_
      refine a_no ?_
      refine a_no ?_
      refine a_no ?_
      refine a_go ?_
      refine a_op ?_
      refine a_op ?_
      refine a_callgo [] false (awake_good Γ hE) ?_
      refine a_op ?_
      refine a_op ?_
      refine s_nil (r_false ?_)
      refine q_next ?_
      refine k_ret ?_
      refine ⟨.inr rfl, a_ret [] (by rw [results4]) ?_ ?_ ?_⟩ <;> simp [-List.map_set, -List.map_replicate, -List.reduceReplicate, -List.map_map, -List.map_drop, -List.map_take, num, bol, txt, w8, w16, w32, w64, lst, cls, rowO, boxO, List.take_of_length_le, Wr.cellsL_len, wA, Wr.k_mk, Wr.n_mk, Wr.s_mk, Wr.l_mk, Wr.cellsL, Wr.z_eq, rcT, wpT]
    · have hqn := rc_turned hlY hb hq
      have hqp := (RG_some hq).2.2.1
      have hql := (mw_len hqp.2.2.2.2.2.2).1
      refine a_op ?_
      first | refine a_text ?_ | refine a_texts ?_
      refine a_call [] true ((by have h := rget_good Γ hE (((rcF r).set Y ((rcF r).getD Y 0 ^^^ b_))) (by rw [List.length_set]; omega); rw [hq] at h; exact h)) ?_
      iterate 6 refine a_op ?_
      refine s_nil (r_false ?_)
      refine q_next ?_
      refine k_seq ?_
      refine k_region rfl ?_
      iterate 3 refine a_op ?_
      refine a_go ?_
      refine a_go ?_
      refine a_op ?_
      refine a_op ?_
      refine a_go ?_
      refine a_go ?_
      refine a_go ?_
      refine a_go ?_
      refine a_go ?_
      refine a_callgo [] false ((by have h := sameR_good Γ q r (by omega) hl; rw [hqn] at h; exact h)) ?_
      refine a_go ?_
      refine a_go ?_
      refine a_go ?_
      refine a_callgo [] false ((by have h := rmayR_good Γ q (by omega); rw [rcB_t hqp] at h; exact h)) ?_
      refine a_go ?_
      refine a_go ?_
      refine a_op ?_
      refine a_op ?_
      refine a_callgo [] false (awake_good Γ hE) ?_
      refine a_op ?_
      refine a_op ?_
      refine s_nil (r_false ?_)
      refine q_next ?_
      refine k_ret ?_
      refine ⟨.inr rfl, a_ret [] (by rw [results4]) ?_ ?_ ?_⟩ <;> simp [-List.map_set, -List.map_replicate, -List.reduceReplicate, -List.map_map, -List.map_drop, -List.map_take, num, bol, txt, w8, w16, w32, w64, lst, cls, rowO, boxO, List.take_of_length_le, Wr.cellsL_len, wA, Wr.k_mk, Wr.n_mk, Wr.s_mk, Wr.l_mk, Wr.cellsL, Wr.z_eq, rcT, wpT]

end Go.Proofs.Tryd
