/- Contracts of this program's functions. -/
import Derived.Test.YtemehffhagfpbaaGreatDoorSMF3
import Derived.Test.YtemehffhagfpbaaGreatDoorSMEA
set_option maxHeartbeats 4000000
set_option maxRecDepth 100000
set_option linter.unusedVariables false
set_option linter.unusedSimpArgs false
namespace Go.Proofs.Tryz
open Go Go.Ot
attribute [local irreducible] wpK wpS seqK blockK loopF regK meetK OpSpec Le rdS lpW rdW got mayS mayW putS putW nb u64 PutW mwB sha rcF hdF hsh RG inF chC fl lkT grR ckB
theorem chain_law_good (Γ : Gl) (hE : EG Γ) (log : List Rc) (hl : log.length ≤ 9223372036854775807) (hw : ∀ j, (log.getD j default).wraps.length ≤ 9223372036854775807) : Go.Ot.Good Γ prog 3 [.t (.sl log.length (log.flatMap rcT))] [] (.t (bol true)) [] [] := by
  refine a_body F.mix func3 (by rfl) ntmps3 ?_
  refine k_seq ?_
  refine k_region rfl ?_
  refine a_op ?_
  refine s_nil (r_false ?_)
  refine q_next ?_
  refine k_seq ?_
  refine k_seq ?_
  refine k_region rfl ?_
  refine a_op ?_
  refine s_nil (r_false ?_)
  refine q_next ?_
  refine k_block ?_
  refine k_loopF (fun sl L (i : Nat) => ⟨setAll (setBad sl [2, 4, 5, 6, 7, 8, 9, 10, 11, 12, 13, 14, 15, 16, 17, 18, 19]) [(3, .t (num i))], Go.Ot.look (L)⟩) (fun i => i ≤ log.length ∧ i ≤ 50) (fun i => log.length - i) (0) (a_le ?_) ?_ ?_
  · refine le_same ?_ ?_ ?_ <;> simp [-List.map_set, -List.map_replicate, -List.reduceReplicate, -List.map_map, -List.map_drop, -List.map_take, num, bol, txt, w8, w16, w32, w64, lst, cls, rowO, boxO, List.take_of_length_le, Wr.cellsL_len, wA, Wr.k_mk, Wr.n_mk, Wr.s_mk, Wr.l_mk, Wr.cellsL, Wr.z_eq, rcT, wpT]
  · exact ⟨Nat.zero_le _, Nat.zero_le _⟩
  · rintro i ⟨hi, hi2⟩
    refine a_st ?_
    refine k_seq ?_
    refine k_seq ?_
    refine k_region rfl ?_
    rcases (show i = log.length ∨ (i < log.length ∧ i = 50) ∨ (i < log.length ∧ i < 50) by omega) with h1 | ⟨h1, h2⟩ | ⟨h1, h2⟩
    · skip
      iterate 5 refine a_op ?_
      refine a_no ?_
      refine a_no ?_
      refine a_op ?_
      refine s_nil (r_false ?_)
      refine q_next ?_
      refine a_false ?_
      refine k_exit ?_
      refine q_seq_exit (q_loopF_exit (q_block_exit (q_next ?_)))
      refine k_seq ?_
      refine k_region rfl ?_
      rcases (show 45 < log.length ∨ log.length ≤ 45 by omega) with h45 | h45
      · skip
        iterate 4 refine a_op ?_
        refine a_no ?_
        refine a_no ?_
        refine a_no ?_
        refine a_no ?_
        refine a_no ?_
        refine a_no ?_
        refine a_no ?_
        refine a_no ?_
        refine a_op ?_
        refine a_op ?_
        refine s_nil (r_false ?_)
        refine q_next ?_
        refine k_ret ?_
        refine ⟨.inr rfl, a_ret [] (by rw [results3]) ?_ ?_ ?_⟩ <;> simp [-List.map_set, -List.map_replicate, -List.reduceReplicate, -List.map_map, -List.map_drop, -List.map_take, num, bol, txt, w8, w16, w32, w64, lst, cls, rowO, boxO, List.take_of_length_le, Wr.cellsL_len, wA, Wr.k_mk, Wr.n_mk, Wr.s_mk, Wr.l_mk, Wr.cellsL, Wr.z_eq, rcT, wpT]
      · skip
        iterate 4 refine a_op ?_
        refine a_go ?_
        refine a_callgo [] false (check_good Γ log (by omega) hw) ?_
        refine a_go ?_
        refine a_callgo [] false (checkR_good Γ log (by omega) hw) ?_
        refine a_go (hs := by (simp (disch := first | omega | (simp only [List.length_drop, List.length_take, List.length_map, List.length_append, List.length_cons, List.length_nil, List.length_replicate, List.length_set] <;> omega) | (simp only [push_cast] <;> omega) | fail) only [push_cast, reduceCtorEq, Nat.reduceAdd, Nat.reduceSub, Nat.reduceMul, Nat.reduceEqDiff, Nat.reduceLT, Nat.reduceLeDiff, Nat.reduceMod, Nat.reduceDiv, Int.reduceLE, Int.reduceLT, Int.reduceEq, Int.reduceToNat, Int.reduceAdd, Int.reduceSub, Int.reduceMul, Int.reduceNeg, beq_self_eq_true] <;> rfl)) ?_
        refine a_go ?_
        refine a_callgo [] false (awake_good Γ hE) ?_
        refine a_go ?_
        refine a_op ?_
        refine a_op ?_
        refine s_nil (r_false ?_)
        refine q_next ?_
        refine k_ret ?_
        refine ⟨.inr rfl, a_ret [] (by rw [results3]) ?_ ?_ ?_⟩ <;> simp [-List.map_set, -List.map_replicate, -List.reduceReplicate, -List.map_map, -List.map_drop, -List.map_take, num, bol, txt, w8, w16, w32, w64, lst, cls, rowO, boxO, List.take_of_length_le, Wr.cellsL_len, wA, Wr.k_mk, Wr.n_mk, Wr.s_mk, Wr.l_mk, Wr.cellsL, Wr.z_eq, rcT, wpT]
    · skip
      iterate 5 refine a_op ?_
      refine a_go ?_
      refine a_go ?_
      refine a_op ?_
      refine s_nil (r_false ?_)
      refine q_next ?_
      refine a_false ?_
      refine k_exit ?_
      refine q_seq_exit (q_loopF_exit (q_block_exit (q_next ?_)))
      refine k_seq ?_
      refine k_region rfl ?_
      have h45 : 45 < log.length := by omega
      · skip
        iterate 4 refine a_op ?_
        refine a_no ?_
        refine a_no ?_
        refine a_no ?_
        refine a_no ?_
        refine a_no ?_
        refine a_no ?_
        refine a_no ?_
        refine a_no ?_
        refine a_op ?_
        refine a_op ?_
        refine s_nil (r_false ?_)
        refine q_next ?_
        refine k_ret ?_
        refine ⟨.inr rfl, a_ret [] (by rw [results3]) ?_ ?_ ?_⟩ <;> simp [-List.map_set, -List.map_replicate, -List.reduceReplicate, -List.map_map, -List.map_drop, -List.map_take, num, bol, txt, w8, w16, w32, w64, lst, cls, rowO, boxO, List.take_of_length_le, Wr.cellsL_len, wA, Wr.k_mk, Wr.n_mk, Wr.s_mk, Wr.l_mk, Wr.cellsL, Wr.z_eq, rcT, wpT]
    · skip
      iterate 5 refine a_op ?_
      refine a_go ?_
      refine a_go ?_
      refine a_op ?_
      refine s_nil (r_false ?_)
      refine q_next ?_
      refine a_true ?_
      refine k_skip ?_
      refine q_next ?_
      refine k_seq ?_
      refine k_block ?_
      refine k_seq ?_
      refine k_region rfl ?_
      have hwi := hw i
      rcases hg : grR (log.getD i default) with _ | _
      · skip
        iterate 4 refine a_op ?_
        refine a_call [] false ((by have h := great_good Γ (log.getD i default) hwi; rw [hg] at h; exact h)) ?_
        refine s_nil (r_false ?_)
        refine q_next ?_
        refine a_false ?_
        refine k_skip ?_
        refine q_block (q_next ?_)
        refine k_region rfl ?_
        iterate 3 refine a_op ?_
        refine s_nil (r_false ?_)
        refine q_loopF (i + 1) (a_le ?_) ?_ ?_
        · refine le_same ?_ ?_ ?_ <;> simp [-List.map_set, -List.map_replicate, -List.reduceReplicate, -List.map_map, -List.map_drop, -List.map_take, num, bol, txt, w8, w16, w32, w64, lst, cls, rowO, boxO, List.take_of_length_le, Wr.cellsL_len, wA, Wr.k_mk, Wr.n_mk, Wr.s_mk, Wr.l_mk, Wr.cellsL, Wr.z_eq, rcT, wpT]
        · exact ⟨by omega, by omega⟩
        · (first | omega | (simp only []; omega))
      · skip
        iterate 4 refine a_op ?_
        refine a_call [] false ((by have h := great_good Γ (log.getD i default) hwi; rw [hg] at h; exact h)) ?_
        refine s_nil (r_false ?_)
        refine q_next ?_
        refine a_true ?_
        refine k_seq ?_
        refine k_region rfl ?_
        refine a_call [] false (awake_good Γ hE) ?_
        refine a_op ?_
        refine s_nil (r_false ?_)
        refine q_next ?_
        refine k_ret ?_
        refine q_block_ret (q_seq_ret (q_loopF_ret (q_block_ret (q_seq_ret ?_))))
        refine ⟨.inr rfl, a_ret [] (by rw [results3]) ?_ ?_ ?_⟩ <;> simp [-List.map_set, -List.map_replicate, -List.reduceReplicate, -List.map_map, -List.map_drop, -List.map_take, num, bol, txt, w8, w16, w32, w64, lst, cls, rowO, boxO, List.take_of_length_le, Wr.cellsL_len, wA, Wr.k_mk, Wr.n_mk, Wr.s_mk, Wr.l_mk, Wr.cellsL, Wr.z_eq, rcT, wpT]

end Go.Proofs.Tryz
