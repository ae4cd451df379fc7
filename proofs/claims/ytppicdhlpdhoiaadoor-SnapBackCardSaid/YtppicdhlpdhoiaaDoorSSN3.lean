/- Contracts of this program's functions. -/
import Derived.Test.YtppicdhlpdhoiaaDoorSSN0
set_option maxHeartbeats 4000000
set_option maxRecDepth 100000
set_option linter.unusedVariables false
set_option linter.unusedSimpArgs false
namespace Go.Proofs.Tryd
open Go Go.Ot
attribute [local irreducible] wpK wpS seqK blockK loopF regK meetK OpSpec Le
theorem hasR_good (Γ : Gl) (l : List Rn) (d n : Int) (hl : l.length ≤ 9223372036854775807) : Go.Ot.Good Γ prog 28 [.t (.sl l.length (l.flatMap rnT)), .agg [.t (num d), .t (num n)]] [] (.t (bol (hasB l d n))) [] [] := by
 refine a_body F.mix func28 (by rfl) ntmps28 ?_
 refine k_seq ?_
 refine k_region rfl ?_
 refine a_op ?_
 refine a_op ?_
 refine s_nil (r_false ?_)
 refine q_next ?_
 refine k_seq ?_
 refine k_seq ?_
 refine k_region rfl ?_
 refine a_op ?_
 refine s_nil (r_false ?_)
 refine q_next ?_
 refine k_block ?_
 refine k_loopF (fun sl L (i : Nat) => ⟨setAll (setBad sl [1, 4, 6, 7, 8, 9, 10, 11, 12, 13, 14, 15, 16, 17, 18, 19, 20, 21, 22, 23, 24, 25, 26, 27, 28, 29, 30, 31, 32, 33, 34, 35, 36, 37, 38, 39]) [(5, .t (num i))], Go.Ot.look (L)⟩) (fun i => i ≤ l.length ∧ ∀ j, j < i → inRn (l.getD j default) d n = false) (fun i => l.length - i) (0) (a_le ?_) ?_ ?_
 ·refine le_of [(.r 0 0 0, .r 0 0 0)] ?_ ?_ ?_ <;> simp [-List.map_set, -List.map_replicate, -List.reduceReplicate, -List.map_map, -List.map_drop, -List.map_take, num, bol, txt, w8, w16, w32, w64, lst, cls, rowO, boxO, List.take_of_length_le, Wr.cellsL_len, wA, Wr.k_mk, Wr.n_mk, Wr.s_mk, Wr.l_mk, Wr.cellsL, Wr.z_eq, rnT, ftT]
 ·exact ⟨Nat.zero_le _, fun j hj => by omega⟩
 ·rintro i ⟨hi, hI⟩
  refine a_st ?_
  refine k_seq ?_
  refine k_seq ?_
  refine k_region rfl ?_
  iterate 4 refine a_op ?_
  refine s_nil (r_false ?_)
  refine q_next ?_
  refine a_if (fun hc0 => ?_) (fun hc0 => ?_)
  ·(try simp only [Bool.and_eq_true, Bool.or_eq_true, Bool.or_eq_false_iff, Bool.not_eq_true', Bool.not_eq_false', dec_t, dec_f, Bool.and_eq_false_imp, beq_iff_eq, beq_eq_false_iff_ne, ne_eq] at hc0)
   refine k_skip ?_
   refine q_next ?_
   refine k_seq ?_
   refine k_block ?_
   refine k_seq ?_
   refine k_region rfl ?_
   rcases (show (l.getD i default).dev ≠ d ∨ ((l.getD i default).dev = d ∧ n < (l.getD i default).fr) ∨ ((l.getD i default).dev = d ∧ (l.getD i default).fr ≤ n ∧ (l.getD i default).to < n) ∨ ((l.getD i default).dev = d ∧ (l.getD i default).fr ≤ n ∧ n ≤ (l.getD i default).to) by omega) with g1 | ⟨g1, g2⟩ | ⟨g1, g2, g3⟩ | ⟨g1, g2, g3⟩
   ·have hno : inRn (l.getD i default) d n = false := decide_eq_false (fun h => by have h1 := h.1; have h2 := h.2.1; have h3 := h.2.2; omega)
    iterate 9 refine a_opd ?_
    refine a_nod ?_
    refine a_nod ?_
    refine a_nod ?_
    refine a_nod ?_
    refine a_nod ?_
    refine a_nod ?_
    refine a_nod ?_
    refine a_nod ?_
    refine a_opd ?_
    refine a_opd ?_
    refine a_nod ?_
    refine a_nod ?_
    refine a_nod ?_
    refine a_nod ?_
    refine a_nod ?_
    refine a_nod ?_
    refine a_nod ?_
    refine a_nod ?_
    refine a_opd ?_
    refine s_nil (r_true (by kernel_rfl) ?_)
    refine q_next ?_
    refine a_false ?_
    refine k_skip ?_
    refine q_block (q_next ?_)
    refine k_region rfl ?_
    iterate 3 refine a_op ?_
    refine s_nil (r_false ?_)
    refine q_loopF (i + 1) (a_le ?_) ?_ ?_
    ·refine le_of [(.r 0 0 0, .r 0 0 0)] ?_ ?_ ?_ <;> simp [-List.map_set, -List.map_replicate, -List.reduceReplicate, -List.map_map, -List.map_drop, -List.map_take, num, bol, txt, w8, w16, w32, w64, lst, cls, rowO, boxO, List.take_of_length_le, Wr.cellsL_len, wA, Wr.k_mk, Wr.n_mk, Wr.s_mk, Wr.l_mk, Wr.cellsL, Wr.z_eq, rnT, ftT]
    ·exact ⟨by omega, fun j hj => by rcases Nat.lt_or_eq_of_le (Nat.le_of_lt_succ hj) with e | e; exact hI j e; (subst e; exact hno)⟩
    ·(first | omega | (simp only []; omega))
   ·have hno : inRn (l.getD i default) d n = false := decide_eq_false (fun h => by have h1 := h.1; have h2 := h.2.1; have h3 := h.2.2; omega)
    iterate 9 refine a_opd ?_
    refine a_god ?_
    refine a_god ?_
    refine a_god ?_
    refine a_god ?_
    refine a_god ?_
    refine a_god ?_
    refine a_god ?_
    refine a_god ?_
    refine a_opd ?_
    refine a_opd ?_
    refine a_nod ?_
    refine a_nod ?_
    refine a_nod ?_
    refine a_nod ?_
    refine a_nod ?_
    refine a_nod ?_
    refine a_nod ?_
    refine a_nod ?_
    refine a_opd ?_
    refine s_nil (r_true (by kernel_rfl) ?_)
    refine q_next ?_
    refine a_false ?_
    refine k_skip ?_
    refine q_block (q_next ?_)
    refine k_region rfl ?_
    iterate 3 refine a_op ?_
    refine s_nil (r_false ?_)
    refine q_loopF (i + 1) (a_le ?_) ?_ ?_
    ·refine le_of [(.r 0 0 0, .r 0 0 0)] ?_ ?_ ?_ <;> simp [-List.map_set, -List.map_replicate, -List.reduceReplicate, -List.map_map, -List.map_drop, -List.map_take, num, bol, txt, w8, w16, w32, w64, lst, cls, rowO, boxO, List.take_of_length_le, Wr.cellsL_len, wA, Wr.k_mk, Wr.n_mk, Wr.s_mk, Wr.l_mk, Wr.cellsL, Wr.z_eq, rnT, ftT]
    ·exact ⟨by omega, fun j hj => by rcases Nat.lt_or_eq_of_le (Nat.le_of_lt_succ hj) with e | e; exact hI j e; (subst e; exact hno)⟩
    ·(first | omega | (simp only []; omega))
   ·have hno : inRn (l.getD i default) d n = false := decide_eq_false (fun h => by have h1 := h.1; have h2 := h.2.1; have h3 := h.2.2; omega)
    iterate 9 refine a_opd ?_
    refine a_god ?_
    refine a_god ?_
    refine a_god ?_
    refine a_god ?_
    refine a_god ?_
    refine a_god ?_
    refine a_god ?_
    refine a_god ?_
    refine a_opd ?_
    refine a_opd ?_
    refine a_god ?_
    refine a_god ?_
    refine a_god ?_
    refine a_god ?_
    refine a_god ?_
    refine a_god ?_
    refine a_god ?_
    refine a_god ?_
    refine a_opd ?_
    refine s_nil (r_true (by kernel_rfl) ?_)
    refine q_next ?_
    refine a_false ?_
    refine k_skip ?_
    refine q_block (q_next ?_)
    refine k_region rfl ?_
    iterate 3 refine a_op ?_
    refine s_nil (r_false ?_)
    refine q_loopF (i + 1) (a_le ?_) ?_ ?_
    ·refine le_of [(.r 0 0 0, .r 0 0 0)] ?_ ?_ ?_ <;> simp [-List.map_set, -List.map_replicate, -List.reduceReplicate, -List.map_map, -List.map_drop, -List.map_take, num, bol, txt, w8, w16, w32, w64, lst, cls, rowO, boxO, List.take_of_length_le, Wr.cellsL_len, wA, Wr.k_mk, Wr.n_mk, Wr.s_mk, Wr.l_mk, Wr.cellsL, Wr.z_eq, rnT, ftT]
    ·exact ⟨by omega, fun j hj => by rcases Nat.lt_or_eq_of_le (Nat.le_of_lt_succ hj) with e | e; exact hI j e; (subst e; exact hno)⟩
    ·(first | omega | (simp only []; omega))
   ·have hq : hasB l d n = true := hasB_yes (i := i) (by omega) (decide_eq_true ⟨g1, g2, g3⟩)
    iterate 9 refine a_opd ?_
    refine a_god ?_
    refine a_god ?_
    refine a_god ?_
    refine a_god ?_
    refine a_god ?_
    refine a_god ?_
    refine a_god ?_
    refine a_god ?_
    refine a_opd ?_
    refine a_opd ?_
    refine a_god ?_
    refine a_god ?_
    refine a_god ?_
    refine a_god ?_
    refine a_god ?_
    refine a_god ?_
    refine a_god ?_
    refine a_god ?_
    refine a_opd ?_
    refine s_nil (r_true (by kernel_rfl) ?_)
    refine q_next ?_
    refine a_true ?_
    refine k_seq ?_
    refine k_region rfl ?_
    refine a_op ?_
    refine s_nil (r_false ?_)
    refine q_next ?_
    refine k_ret ?_
    refine q_block_ret (q_seq_ret (q_loopF_ret (q_block_ret (q_seq_ret ?_))))
    refine ⟨.inr rfl, a_ret [] (by rw [results28]) ?_ ?_ ?_⟩ <;> simp [-List.map_set, -List.map_replicate, -List.reduceReplicate, -List.map_map, -List.map_drop, -List.map_take, num, bol, txt, w8, w16, w32, w64, lst, cls, rowO, boxO, List.take_of_length_le, Wr.cellsL_len, wA, Wr.k_mk, Wr.n_mk, Wr.s_mk, Wr.l_mk, Wr.cellsL, Wr.z_eq, rnT, ftT, hq]
  ·(try simp only [Bool.and_eq_true, Bool.or_eq_true, Bool.or_eq_false_iff, Bool.not_eq_true', Bool.not_eq_false', dec_t, dec_f, Bool.and_eq_false_imp, beq_iff_eq, beq_eq_false_iff_ne, ne_eq] at hc0)
   refine k_exit ?_
   refine q_seq_exit (q_loopF_exit (q_block_exit (q_next ?_)))
   refine k_seq ?_
   refine k_region rfl ?_
   have hq := hasB_no (l := l) (d := d) (n := n) (fun j hj => hI j (by omega))
   refine a_op ?_
   refine s_nil (r_false ?_)
   refine q_next ?_
   refine k_ret ?_
   refine ⟨.inr rfl, a_ret [] (by rw [results28]) ?_ ?_ ?_⟩ <;> simp [-List.map_set, -List.map_replicate, -List.reduceReplicate, -List.map_map, -List.map_drop, -List.map_take, num, bol, txt, w8, w16, w32, w64, lst, cls, rowO, boxO, List.take_of_length_le, Wr.cellsL_len, wA, Wr.k_mk, Wr.n_mk, Wr.s_mk, Wr.l_mk, Wr.cellsL, Wr.z_eq, rnT, ftT, hq]

end Go.Proofs.Tryd
