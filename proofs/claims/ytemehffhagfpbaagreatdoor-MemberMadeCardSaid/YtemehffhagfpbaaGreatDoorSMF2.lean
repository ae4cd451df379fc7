/- Contracts of this program's functions. -/
import Derived.Test.YtemehffhagfpbaaGreatDoorSMF0
set_option maxHeartbeats 4000000
set_option maxRecDepth 100000
set_option linter.unusedVariables false
set_option linter.unusedSimpArgs false
namespace Go.Proofs.Tryz
open Go Go.Ot
attribute [local irreducible] wpK wpS seqK blockK loopF regK meetK OpSpec Le rcF hsh inF chC mwB lkT fl inR
theorem In_good (Γ : Gl) (log : List Rc) (n d : Int) (hl : log.length ≤ 1000000) : Go.Ot.Good Γ prog 21 [.t (.sl log.length (log.flatMap rcT)), .t (num n), .t (num d)] [] (.t (bol (inB log n d))) [] [] := by
 refine a_body F.mix func21 (by rfl) ntmps21 ?_
 refine k_seq ?_
 refine k_region rfl ?_
 refine a_op ?_
 refine s_nil (r_false ?_)
 refine q_next ?_
 refine k_seq ?_
 refine k_region rfl ?_
 refine a_op ?_
 refine s_nil (r_false ?_)
 refine q_next ?_
 refine k_seq ?_
 refine k_seq ?_
 refine k_region rfl ?_
 refine a_op ?_
 refine s_nil (r_false ?_)
 refine q_next ?_
 refine k_block ?_
 refine k_loopF (fun sl L (i : Nat) => ⟨setAll (setBad sl [9, 10, 11, 12, 13, 14, 15, 16, 17, 18, 19, 20, 21, 22, 23, 24, 25, 26, 27, 28, 29, 30, 31, 32, 33, 34, 35, 36, 37, 38, 39, 40, 41, 42, 43, 44, 45, 46, 47, 48, 49, 50, 51, 52]) [(7, .t (bol (inR log n d i))), (8, .t (num i))], Go.Ot.look (L)⟩) (fun i => i ≤ log.length) (fun i => log.length - i) (0) (a_le ?_) ?_ ?_
 ·refine le_same ?_ ?_ ?_ <;> simp [-List.map_set, -List.map_replicate, -List.reduceReplicate, -List.map_map, -List.map_drop, -List.map_take, num, bol, txt, w8, w16, w32, w64, lst, cls, rowO, boxO, List.take_of_length_le, Wr.cellsL_len, wA, Wr.k_mk, Wr.n_mk, Wr.s_mk, Wr.l_mk, Wr.cellsL, Wr.z_eq, rcT, wpT, inR_0]
 ·(first | omega | simp)
 ·intro i hi
  refine a_st ?_
  refine k_seq ?_
  refine k_seq ?_
  refine k_region rfl ?_
  iterate 4 refine a_op ?_
  refine s_nil (r_false ?_)
  refine q_next ?_
  refine a_if (fun hc0 => ?_) (fun hc0 => ?_)
  ·(try simp only [Bool.and_eq_true, Bool.or_eq_true, Bool.or_eq_false_iff, Bool.not_eq_true', Bool.not_eq_false', dec_t, dec_f, Bool.and_eq_false_imp, beq_iff_eq, beq_eq_false_iff_ne, ne_eq] at hc0)
   refine k_skip ?_
   refine q_next ?_
   refine k_seq ?_
   refine k_block ?_
   refine k_seq ?_
   refine k_region rfl ?_
   rcases (show ¬ (log.getD i default).seq ≤ n ∨ ((log.getD i default).seq ≤ n ∧ (log.getD i default).dev ≠ d) ∨ ((log.getD i default).seq ≤ n ∧ (log.getD i default).dev = d ∧ (log.getD i default).kind = 1) ∨ ((log.getD i default).seq ≤ n ∧ (log.getD i default).dev = d ∧ (log.getD i default).kind ≠ 1 ∧ (log.getD i default).kind = 2) ∨ ((log.getD i default).seq ≤ n ∧ (log.getD i default).dev = d ∧ (log.getD i default).kind ≠ 1 ∧ (log.getD i default).kind ≠ 2) by omega) with g1 | ⟨g1, g2⟩ | ⟨g1, g2, g3⟩ | ⟨g1, g2, g3, g4⟩ | ⟨g1, g2, g3, g4⟩
   ·have hn := inR_s (l := log) (n := n) (d := d) (j := i) (fun h => g1 h.1)
    iterate 8 refine a_op ?_
    refine a_no ?_
    refine a_no ?_
    refine a_no ?_
    refine a_no ?_
    refine a_no ?_
    refine a_no ?_
    refine a_no ?_
    refine a_op ?_
    refine a_op ?_
    refine a_no ?_
    refine a_no ?_
    refine a_no ?_
    refine a_no ?_
    refine a_no ?_
    refine a_no ?_
    refine a_no ?_
    refine a_no ?_
    refine a_no ?_
    refine a_no ?_
    refine a_no ?_
    refine a_no ?_
    refine a_no ?_
    refine a_no ?_
    refine a_op ?_
    refine s_nil (r_false ?_)
    refine q_next ?_
    refine a_false ?_
    refine k_skip ?_
    refine q_block (q_next ?_)
    refine k_region rfl ?_
    iterate 3 refine a_op ?_
    refine s_nil (r_false ?_)
    refine q_loopF (i + 1) (a_le ?_) ?_ ?_
    ·refine le_same ?_ ?_ ?_ <;> simp [-List.map_set, -List.map_replicate, -List.reduceReplicate, -List.map_map, -List.map_drop, -List.map_take, num, bol, txt, w8, w16, w32, w64, lst, cls, rowO, boxO, List.take_of_length_le, Wr.cellsL_len, wA, Wr.k_mk, Wr.n_mk, Wr.s_mk, Wr.l_mk, Wr.cellsL, Wr.z_eq, rcT, wpT, hn]
    ·(first | omega | (simp_all <;> omega))
    ·(first | omega | (simp only []; omega))
   ·have hn := inR_s (l := log) (n := n) (d := d) (j := i) (fun h => g2 h.2.1)
    iterate 8 refine a_op ?_
    refine a_go ?_
    refine a_go ?_
    refine a_go ?_
    refine a_go ?_
    refine a_go ?_
    refine a_go ?_
    refine a_go ?_
    refine a_op ?_
    refine a_op ?_
    refine a_no ?_
    refine a_no ?_
    refine a_no ?_
    refine a_no ?_
    refine a_no ?_
    refine a_no ?_
    refine a_no ?_
    refine a_no ?_
    refine a_no ?_
    refine a_no ?_
    refine a_no ?_
    refine a_no ?_
    refine a_no ?_
    refine a_no ?_
    refine a_op ?_
    refine s_nil (r_false ?_)
    refine q_next ?_
    refine a_false ?_
    refine k_skip ?_
    refine q_block (q_next ?_)
    refine k_region rfl ?_
    iterate 3 refine a_op ?_
    refine s_nil (r_false ?_)
    refine q_loopF (i + 1) (a_le ?_) ?_ ?_
    ·refine le_same ?_ ?_ ?_ <;> simp [-List.map_set, -List.map_replicate, -List.reduceReplicate, -List.map_map, -List.map_drop, -List.map_take, num, bol, txt, w8, w16, w32, w64, lst, cls, rowO, boxO, List.take_of_length_le, Wr.cellsL_len, wA, Wr.k_mk, Wr.n_mk, Wr.s_mk, Wr.l_mk, Wr.cellsL, Wr.z_eq, rcT, wpT, hn]
    ·(first | omega | (simp_all <;> omega))
    ·(first | omega | (simp only []; omega))
   ·have hn := inR_y g1 g2 g3
    iterate 8 refine a_op ?_
    refine a_go ?_
    refine a_go ?_
    refine a_go ?_
    refine a_go ?_
    refine a_go ?_
    refine a_go ?_
    refine a_go ?_
    refine a_op ?_
    refine a_op ?_
    refine a_go ?_
    refine a_go ?_
    refine a_go ?_
    refine a_go ?_
    refine a_go ?_
    refine a_go ?_
    refine a_go ?_
    refine a_no ?_
    refine a_no ?_
    refine a_no ?_
    refine a_no ?_
    refine a_no ?_
    refine a_no ?_
    refine a_go ?_
    refine a_op ?_
    refine s_nil (r_false ?_)
    refine q_next ?_
    refine a_true ?_
    refine k_region rfl ?_
    iterate 7 refine a_op ?_
    refine s_nil (r_false ?_)
    refine q_block (q_next ?_)
    refine k_region rfl ?_
    iterate 3 refine a_op ?_
    refine s_nil (r_false ?_)
    refine q_loopF (i + 1) (a_le ?_) ?_ ?_
    ·refine le_same ?_ ?_ ?_ <;> simp [-List.map_set, -List.map_replicate, -List.reduceReplicate, -List.map_map, -List.map_drop, -List.map_take, num, bol, txt, w8, w16, w32, w64, lst, cls, rowO, boxO, List.take_of_length_le, Wr.cellsL_len, wA, Wr.k_mk, Wr.n_mk, Wr.s_mk, Wr.l_mk, Wr.cellsL, Wr.z_eq, rcT, wpT, hn]
    ·(first | omega | (simp_all <;> omega))
    ·(first | omega | (simp only []; omega))
   ·have hn := inR_n g1 g2 g3 g4
    iterate 8 refine a_op ?_
    refine a_go ?_
    refine a_go ?_
    refine a_go ?_
    refine a_go ?_
    refine a_go ?_
    refine a_go ?_
    refine a_go ?_
    refine a_op ?_
    refine a_op ?_
    refine a_go ?_
    refine a_go ?_
    refine a_go ?_
    refine a_go ?_
    refine a_go ?_
    refine a_go ?_
    refine a_go ?_
    refine a_go ?_
    refine a_go ?_
    refine a_go ?_
    refine a_go ?_
    refine a_go ?_
    refine a_go ?_
    refine a_go ?_
    refine a_op ?_
    refine s_nil (r_false ?_)
    refine q_next ?_
    refine a_true ?_
    refine k_region rfl ?_
    iterate 7 refine a_op ?_
    refine s_nil (r_false ?_)
    refine q_block (q_next ?_)
    refine k_region rfl ?_
    iterate 3 refine a_op ?_
    refine s_nil (r_false ?_)
    refine q_loopF (i + 1) (a_le ?_) ?_ ?_
    ·refine le_same ?_ ?_ ?_ <;> simp [-List.map_set, -List.map_replicate, -List.reduceReplicate, -List.map_map, -List.map_drop, -List.map_take, num, bol, txt, w8, w16, w32, w64, lst, cls, rowO, boxO, List.take_of_length_le, Wr.cellsL_len, wA, Wr.k_mk, Wr.n_mk, Wr.s_mk, Wr.l_mk, Wr.cellsL, Wr.z_eq, rcT, wpT, hn]
    ·(first | omega | (simp_all <;> omega))
    ·(first | omega | (simp only []; omega))
   ·have hn := inR_s (l := log) (n := n) (d := d) (j := i) (fun h => by rcases h.2.2 with h | h; exact g3 h; exact g4 h)
    iterate 8 refine a_op ?_
    refine a_go ?_
    refine a_go ?_
    refine a_go ?_
    refine a_go ?_
    refine a_go ?_
    refine a_go ?_
    refine a_go ?_
    refine a_op ?_
    refine a_op ?_
    refine a_go ?_
    refine a_go ?_
    refine a_go ?_
    refine a_go ?_
    refine a_go ?_
    refine a_go ?_
    refine a_go ?_
    refine a_go ?_
    refine a_go ?_
    refine a_go ?_
    refine a_go ?_
    refine a_go ?_
    refine a_go ?_
    refine a_go ?_
    refine a_op ?_
    refine s_nil (r_false ?_)
    refine q_next ?_
    refine a_false ?_
    refine k_skip ?_
    refine q_block (q_next ?_)
    refine k_region rfl ?_
    iterate 3 refine a_op ?_
    refine s_nil (r_false ?_)
    refine q_loopF (i + 1) (a_le ?_) ?_ ?_
    ·refine le_same ?_ ?_ ?_ <;> simp [-List.map_set, -List.map_replicate, -List.reduceReplicate, -List.map_map, -List.map_drop, -List.map_take, num, bol, txt, w8, w16, w32, w64, lst, cls, rowO, boxO, List.take_of_length_le, Wr.cellsL_len, wA, Wr.k_mk, Wr.n_mk, Wr.s_mk, Wr.l_mk, Wr.cellsL, Wr.z_eq, rcT, wpT, hn]
    ·(first | omega | (simp_all <;> omega))
    ·(first | omega | (simp only []; omega))
  ·(try simp only [Bool.and_eq_true, Bool.or_eq_true, Bool.or_eq_false_iff, Bool.not_eq_true', Bool.not_eq_false', dec_t, dec_f, Bool.and_eq_false_imp, beq_iff_eq, beq_eq_false_iff_ne, ne_eq] at hc0)
   refine k_exit ?_
   refine q_seq_exit (q_loopF_exit (q_block_exit (q_next ?_)))
   refine k_seq ?_
   refine k_region rfl ?_
   have hil : i = log.length := by omega
   subst hil
   rcases hb : inR log n d log.length with _ | _
   rotate_left 1
   rcases (show d < 0 ∨ (0 ≤ d ∧ 8 ≤ d) ∨ (0 ≤ d ∧ d < 8) by omega) with k1 | ⟨k1, k2⟩ | ⟨k1, k2⟩
   rotate_left 3
   ·have hq : inB log n d = false := by rw [inB, hb]; rfl
    refine a_op ?_
    refine a_op ?_
    refine a_no ?_
    refine a_no ?_
    refine a_op ?_
    refine a_op ?_
    refine a_no ?_
    refine a_no ?_
    refine a_op ?_
    refine a_op ?_
    refine s_nil (r_false ?_)
    refine q_next ?_
    refine k_ret ?_
    refine ⟨.inr rfl, a_ret [] (by rw [results21]) ?_ ?_ ?_⟩ <;> simp [-List.map_set, -List.map_replicate, -List.reduceReplicate, -List.map_map, -List.map_drop, -List.map_take, num, bol, txt, w8, w16, w32, w64, lst, cls, rowO, boxO, List.take_of_length_le, Wr.cellsL_len, wA, Wr.k_mk, Wr.n_mk, Wr.s_mk, Wr.l_mk, Wr.cellsL, Wr.z_eq, rcT, wpT, hq]
   ·have hq : inB log n d = false := by rw [inB, hb, decide_eq_false (by omega)]; rfl
    refine a_op ?_
    refine a_op ?_
    refine a_go ?_
    refine a_go ?_
    refine a_op ?_
    refine a_op ?_
    refine a_no ?_
    refine a_no ?_
    refine a_op ?_
    refine a_op ?_
    refine s_nil (r_false ?_)
    refine q_next ?_
    refine k_ret ?_
    refine ⟨.inr rfl, a_ret [] (by rw [results21]) ?_ ?_ ?_⟩ <;> simp [-List.map_set, -List.map_replicate, -List.reduceReplicate, -List.map_map, -List.map_drop, -List.map_take, num, bol, txt, w8, w16, w32, w64, lst, cls, rowO, boxO, List.take_of_length_le, Wr.cellsL_len, wA, Wr.k_mk, Wr.n_mk, Wr.s_mk, Wr.l_mk, Wr.cellsL, Wr.z_eq, rcT, wpT, hq]
   ·have hq : inB log n d = false := by rw [inB, hb, decide_eq_true k1, decide_eq_false (by omega)]; rfl
    refine a_op ?_
    refine a_op ?_
    refine a_go ?_
    refine a_go ?_
    refine a_op ?_
    refine a_op ?_
    refine a_go ?_
    refine a_go ?_
    refine a_op ?_
    refine a_op ?_
    refine s_nil (r_false ?_)
    refine q_next ?_
    refine k_ret ?_
    refine ⟨.inr rfl, a_ret [] (by rw [results21]) ?_ ?_ ?_⟩ <;> simp [-List.map_set, -List.map_replicate, -List.reduceReplicate, -List.map_map, -List.map_drop, -List.map_take, num, bol, txt, w8, w16, w32, w64, lst, cls, rowO, boxO, List.take_of_length_le, Wr.cellsL_len, wA, Wr.k_mk, Wr.n_mk, Wr.s_mk, Wr.l_mk, Wr.cellsL, Wr.z_eq, rcT, wpT, hq]
   ·have hq : inB log n d = true := by rw [inB, hb, decide_eq_true k1, decide_eq_true k2]; rfl
    refine a_op ?_
    refine a_op ?_
    refine a_go ?_
    refine a_go ?_
    refine a_op ?_
    refine a_op ?_
    refine a_go ?_
    refine a_go ?_
    refine a_op ?_
    refine a_op ?_
    refine s_nil (r_false ?_)
    refine q_next ?_
    refine k_ret ?_
    refine ⟨.inr rfl, a_ret [] (by rw [results21]) ?_ ?_ ?_⟩ <;> simp [-List.map_set, -List.map_replicate, -List.reduceReplicate, -List.map_map, -List.map_drop, -List.map_take, num, bol, txt, w8, w16, w32, w64, lst, cls, rowO, boxO, List.take_of_length_le, Wr.cellsL_len, wA, Wr.k_mk, Wr.n_mk, Wr.s_mk, Wr.l_mk, Wr.cellsL, Wr.z_eq, rcT, wpT, hq]

end Go.Proofs.Tryz
