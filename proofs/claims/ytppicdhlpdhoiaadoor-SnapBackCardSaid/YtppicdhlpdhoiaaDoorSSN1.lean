/- Contracts of this program's functions. -/
import Derived.Test.YtppicdhlpdhoiaaDoorSSN0
set_option maxHeartbeats 4000000
set_option maxRecDepth 100000
set_option linter.unusedVariables false
set_option linter.unusedSimpArgs false
namespace Go.Proofs.Tryd
open Go Go.Ot
attribute [local irreducible] wpK wpS seqK blockK loopF regK meetK OpSpec Le
theorem rnright_good (Γ : Gl) (r : Rn) : Go.Ot.Good Γ prog 51 [.agg [.t (num r.dev), .t (num r.fr), .t (num r.to)]] [] (.t (bol (rnB r))) [] [] := by
 refine a_body F.mix func51 (by rfl) ntmps51 ?_
 refine k_seq ?_
 refine k_region rfl ?_
 refine a_op ?_
 refine a_op ?_
 refine s_nil (r_false ?_)
 refine q_next ?_
 refine k_seq ?_
 refine k_region rfl ?_
 rcases (show r.dev < 0 ∨ (0 ≤ r.dev ∧ 8 ≤ r.dev) ∨ (0 ≤ r.dev ∧ r.dev < 8 ∧ r.fr < 1) ∨ (0 ≤ r.dev ∧ r.dev < 8 ∧ 1 ≤ r.fr ∧ r.to < r.fr) ∨ (0 ≤ r.dev ∧ r.dev < 8 ∧ 1 ≤ r.fr ∧ r.fr ≤ r.to ∧ 4503599627370496 < r.to) ∨ (0 ≤ r.dev ∧ r.dev < 8 ∧ 1 ≤ r.fr ∧ r.fr ≤ r.to ∧ r.to ≤ 4503599627370496) by omega) with g1 | ⟨g1, g2⟩ | ⟨g1, g2, g3⟩ | ⟨g1, g2, g3, g4⟩ | ⟨g1, g2, g3, g4, g5⟩ | ⟨g1, g2, g3, g4, g5⟩
 ·have hq := rnB_f (r := r) (fun h => by have h1 := h.1; have h2 := h.2.1; have h3 := h.2.2.1; have h4 := h.2.2.2.1; have h5 := h.2.2.2.2; omega)
  iterate 4 refine a_op ?_
  refine a_no ?_
  refine a_no ?_
  refine a_no ?_
  refine a_op ?_
  refine a_op ?_
  refine a_no ?_
  refine a_no ?_
  refine a_no ?_
  refine a_op ?_
  refine a_op ?_
  refine a_no ?_
  refine a_no ?_
  refine a_no ?_
  refine a_no ?_
  refine a_no ?_
  refine a_op ?_
  refine a_op ?_
  refine a_no ?_
  refine a_no ?_
  refine a_no ?_
  refine a_op ?_
  refine a_op ?_
  refine s_nil (r_false ?_)
  refine q_next ?_
  refine k_ret ?_
  refine ⟨.inr rfl, a_ret [] (by rw [results51]) ?_ ?_ ?_⟩ <;> simp [-List.map_set, -List.map_replicate, -List.reduceReplicate, -List.map_map, -List.map_drop, -List.map_take, num, bol, txt, w8, w16, w32, w64, lst, cls, rowO, boxO, List.take_of_length_le, Wr.cellsL_len, wA, Wr.k_mk, Wr.n_mk, Wr.s_mk, Wr.l_mk, Wr.cellsL, Wr.z_eq, rnT, ftT, hq]
 ·have hq := rnB_f (r := r) (fun h => by have h1 := h.1; have h2 := h.2.1; have h3 := h.2.2.1; have h4 := h.2.2.2.1; have h5 := h.2.2.2.2; omega)
  iterate 4 refine a_op ?_
  refine a_go ?_
  refine a_go ?_
  refine a_go ?_
  refine a_op ?_
  refine a_op ?_
  refine a_no ?_
  refine a_no ?_
  refine a_no ?_
  refine a_op ?_
  refine a_op ?_
  refine a_no ?_
  refine a_no ?_
  refine a_no ?_
  refine a_no ?_
  refine a_no ?_
  refine a_op ?_
  refine a_op ?_
  refine a_no ?_
  refine a_no ?_
  refine a_no ?_
  refine a_op ?_
  refine a_op ?_
  refine s_nil (r_false ?_)
  refine q_next ?_
  refine k_ret ?_
  refine ⟨.inr rfl, a_ret [] (by rw [results51]) ?_ ?_ ?_⟩ <;> simp [-List.map_set, -List.map_replicate, -List.reduceReplicate, -List.map_map, -List.map_drop, -List.map_take, num, bol, txt, w8, w16, w32, w64, lst, cls, rowO, boxO, List.take_of_length_le, Wr.cellsL_len, wA, Wr.k_mk, Wr.n_mk, Wr.s_mk, Wr.l_mk, Wr.cellsL, Wr.z_eq, rnT, ftT, hq]
 ·have hq := rnB_f (r := r) (fun h => by have h1 := h.1; have h2 := h.2.1; have h3 := h.2.2.1; have h4 := h.2.2.2.1; have h5 := h.2.2.2.2; omega)
  iterate 4 refine a_op ?_
  refine a_go ?_
  refine a_go ?_
  refine a_go ?_
  refine a_op ?_
  refine a_op ?_
  refine a_go ?_
  refine a_go ?_
  refine a_go ?_
  refine a_op ?_
  refine a_op ?_
  refine a_no ?_
  refine a_no ?_
  refine a_no ?_
  refine a_no ?_
  refine a_no ?_
  refine a_op ?_
  refine a_op ?_
  refine a_no ?_
  refine a_no ?_
  refine a_no ?_
  refine a_op ?_
  refine a_op ?_
  refine s_nil (r_false ?_)
  refine q_next ?_
  refine k_ret ?_
  refine ⟨.inr rfl, a_ret [] (by rw [results51]) ?_ ?_ ?_⟩ <;> simp [-List.map_set, -List.map_replicate, -List.reduceReplicate, -List.map_map, -List.map_drop, -List.map_take, num, bol, txt, w8, w16, w32, w64, lst, cls, rowO, boxO, List.take_of_length_le, Wr.cellsL_len, wA, Wr.k_mk, Wr.n_mk, Wr.s_mk, Wr.l_mk, Wr.cellsL, Wr.z_eq, rnT, ftT, hq]
 ·have hq := rnB_f (r := r) (fun h => by have h1 := h.1; have h2 := h.2.1; have h3 := h.2.2.1; have h4 := h.2.2.2.1; have h5 := h.2.2.2.2; omega)
  iterate 4 refine a_op ?_
  refine a_go ?_
  refine a_go ?_
  refine a_go ?_
  refine a_op ?_
  refine a_op ?_
  refine a_go ?_
  refine a_go ?_
  refine a_go ?_
  refine a_op ?_
  refine a_op ?_
  refine a_go ?_
  refine a_go ?_
  refine a_go ?_
  refine a_go ?_
  refine a_go ?_
  refine a_op ?_
  refine a_op ?_
  refine a_no ?_
  refine a_no ?_
  refine a_no ?_
  refine a_op ?_
  refine a_op ?_
  refine s_nil (r_false ?_)
  refine q_next ?_
  refine k_ret ?_
  refine ⟨.inr rfl, a_ret [] (by rw [results51]) ?_ ?_ ?_⟩ <;> simp [-List.map_set, -List.map_replicate, -List.reduceReplicate, -List.map_map, -List.map_drop, -List.map_take, num, bol, txt, w8, w16, w32, w64, lst, cls, rowO, boxO, List.take_of_length_le, Wr.cellsL_len, wA, Wr.k_mk, Wr.n_mk, Wr.s_mk, Wr.l_mk, Wr.cellsL, Wr.z_eq, rnT, ftT, hq]
 ·have hq := rnB_f (r := r) (fun h => by have h1 := h.1; have h2 := h.2.1; have h3 := h.2.2.1; have h4 := h.2.2.2.1; have h5 := h.2.2.2.2; omega)
  iterate 4 refine a_op ?_
  refine a_go ?_
  refine a_go ?_
  refine a_go ?_
  refine a_op ?_
  refine a_op ?_
  refine a_go ?_
  refine a_go ?_
  refine a_go ?_
  refine a_op ?_
  refine a_op ?_
  refine a_go ?_
  refine a_go ?_
  refine a_go ?_
  refine a_go ?_
  refine a_go ?_
  refine a_op ?_
  refine a_op ?_
  refine a_go ?_
  refine a_go ?_
  refine a_go ?_
  refine a_op ?_
  refine a_op ?_
  refine s_nil (r_false ?_)
  refine q_next ?_
  refine k_ret ?_
  refine ⟨.inr rfl, a_ret [] (by rw [results51]) ?_ ?_ ?_⟩ <;> simp [-List.map_set, -List.map_replicate, -List.reduceReplicate, -List.map_map, -List.map_drop, -List.map_take, num, bol, txt, w8, w16, w32, w64, lst, cls, rowO, boxO, List.take_of_length_le, Wr.cellsL_len, wA, Wr.k_mk, Wr.n_mk, Wr.s_mk, Wr.l_mk, Wr.cellsL, Wr.z_eq, rnT, ftT, hq]
 ·have hq := rnB_t (r := r) ⟨g1, g2, g3, g4, g5⟩
  iterate 4 refine a_op ?_
  refine a_go ?_
  refine a_go ?_
  refine a_go ?_
  refine a_op ?_
  refine a_op ?_
  refine a_go ?_
  refine a_go ?_
  refine a_go ?_
  refine a_op ?_
  refine a_op ?_
  refine a_go ?_
  refine a_go ?_
  refine a_go ?_
  refine a_go ?_
  refine a_go ?_
  refine a_op ?_
  refine a_op ?_
  refine a_go ?_
  refine a_go ?_
  refine a_go ?_
  refine a_op ?_
  refine a_op ?_
  refine s_nil (r_false ?_)
  refine q_next ?_
  refine k_ret ?_
  refine ⟨.inr rfl, a_ret [] (by rw [results51]) ?_ ?_ ?_⟩ <;> simp [-List.map_set, -List.map_replicate, -List.reduceReplicate, -List.map_map, -List.map_drop, -List.map_take, num, bol, txt, w8, w16, w32, w64, lst, cls, rowO, boxO, List.take_of_length_le, Wr.cellsL_len, wA, Wr.k_mk, Wr.n_mk, Wr.s_mk, Wr.l_mk, Wr.cellsL, Wr.z_eq, rnT, ftT, hq]

theorem mayr_good (Γ : Gl) (l : List Rn) (hl : l.length ≤ 9223372036854775807) : Go.Ot.Good Γ prog 35 [.t (.sl l.length (l.flatMap rnT))] [] (.t (bol (mrB l))) [] [] := by
 refine a_body F.mix func35 (by rfl) ntmps35 ?_
 refine k_seq ?_
 refine k_region rfl ?_
 refine a_op ?_
 refine s_nil (r_false ?_)
 refine q_next ?_
 refine k_seq ?_
 refine k_seq ?_
 refine k_region rfl ?_
 iterate 3 refine a_op ?_
 refine s_nil (r_false ?_)
 refine q_next ?_
 refine k_block ?_
 refine k_loopF (fun sl L (i : Nat) => ⟨setAll (setBad sl [2, 3, 4, 8, 9, 10, 11, 12, 13, 14, 15, 16, 17, 18, 19, 20, 21, 22, 23, 24, 25, 26, 27, 28, 29, 30, 31, 32, 33, 34, 35, 36, 37, 38, 39, 40, 41, 42, 43, 44, 45, 46, 47, 48, 49, 50, 51, 52, 53]) [(7, .t (num i))], Go.Ot.look (L)⟩) (fun i => i ≤ l.length ∧ ∀ j, j < i → rnOk l j) (fun i => l.length - i) (0) (a_le ?_) ?_ ?_
 ·refine le_same ?_ ?_ ?_ <;> simp [-List.map_set, -List.map_replicate, -List.reduceReplicate, -List.map_map, -List.map_drop, -List.map_take, num, bol, txt, w8, w16, w32, w64, lst, cls, rowO, boxO, List.take_of_length_le, Wr.cellsL_len, wA, Wr.k_mk, Wr.n_mk, Wr.s_mk, Wr.l_mk, Wr.cellsL, Wr.z_eq, rnT, ftT]
 ·exact ⟨Nat.zero_le _, fun j hj => by omega⟩
 ·rintro i ⟨hi, hI⟩
  refine a_st ?_
  refine k_seq ?_
  refine k_region rfl ?_
  refine a_op ?_
  refine s_nil (r_false ?_)
  refine q_next ?_
  refine k_seq ?_
  refine a_if (fun hc0 => ?_) (fun hc0 => ?_)
  ·(try simp only [Bool.and_eq_true, Bool.or_eq_true, Bool.or_eq_false_iff, Bool.not_eq_true', Bool.not_eq_false', dec_t, dec_f, Bool.and_eq_false_imp, beq_iff_eq, beq_eq_false_iff_ne, ne_eq] at hc0)
   refine k_skip ?_
   refine q_next ?_
   refine k_seq ?_
   refine k_block ?_
   refine k_seq ?_
   refine k_region rfl ?_
   iterate 3 refine a_op ?_
   obtain ⟨r, he⟩ : ∃ r, l.getD i default = r := ⟨_, rfl⟩
   simp only [he]
   iterate 3 refine a_op ?_
   refine s_nil (r_false ?_)
   refine q_next ?_
   refine k_seq ?_
   refine k_region rfl ?_
   have h6 : (¬ rnP r) ∨ (rnP r ∧ i = 0) ∨ (rnP r ∧ (∃ k, i = k + 1) ∧ r.dev < (l.getD (i - 1) default).dev) ∨ (rnP r ∧ (∃ k, i = k + 1) ∧ (l.getD (i - 1) default).dev < r.dev) ∨ (rnP r ∧ (∃ k, i = k + 1) ∧ r.dev = (l.getD (i - 1) default).dev ∧ r.fr ≤ (l.getD (i - 1) default).to + 1) ∨ (rnP r ∧ (∃ k, i = k + 1) ∧ r.dev = (l.getD (i - 1) default).dev ∧ (l.getD (i - 1) default).to + 1 < r.fr) := by
    by_cases g : rnP r
    ·have : i = 0 ∨ ∃ k, i = k + 1 := by cases i with | zero => exact .inl rfl | succ k => exact .inr ⟨k, rfl⟩
     rcases this with rfl | ⟨k, hk⟩
     ·simp [g]
     ·have hk' : ∃ k, i = k + 1 := ⟨k, hk⟩
      simp only [hk', g, true_and, not_true_eq_false, false_or]
      omega
    ·exact .inl g
   rcases h6 with g | ⟨g, rfl⟩ | ⟨g, ⟨k, rfl⟩, g2⟩ | ⟨g, ⟨k, rfl⟩, g2⟩ | ⟨g, ⟨k, rfl⟩, g2, g3⟩ | ⟨g, ⟨k, rfl⟩, g2, g3⟩
   ·have hq : mrB l = false := mrB_no (i := i) (by omega) (fun h => by exact g (by rw [← he]; exact h.1))
    refine a_opd ?_
    refine a_calld [] false (by have h := rnright_good Γ r; rw [rnB_f g] at h; exact h) ?_
    refine a_opd ?_
    refine a_opd ?_
    refine a_nod ?_
    refine a_nod ?_
    refine a_nod ?_
    refine a_nod ?_
    refine a_nod ?_
    refine a_nod ?_
    refine a_nod ?_
    refine a_nod ?_
    refine a_nod ?_
    refine a_nod ?_
    refine a_nod ?_
    try simp only [hq0]
    refine a_nod ?_
    refine a_nod ?_
    refine a_nod ?_
    refine a_nod ?_
    refine a_nod ?_
    refine a_nod ?_
    refine a_nod ?_
    refine a_nod ?_
    refine a_nod ?_
    refine a_nod ?_
    try simp only [hq0]
    refine a_nod ?_
    refine a_nod ?_
    refine a_nod ?_
    refine a_nod ?_
    refine a_nod ?_
    refine a_nod ?_
    refine a_nod ?_
    refine a_nod ?_
    refine a_nod ?_
    refine a_nod ?_
    try simp only [hq0]
    refine a_nod ?_
    refine a_nod ?_
    refine a_nod ?_
    refine a_nod ?_
    refine a_nod ?_
    refine a_opd ?_
    refine s_nil (r_true (by kernel_rfl) ?_)
    refine q_next ?_
    refine a_true ?_
    refine k_seq ?_
    refine k_region rfl ?_
    refine a_op ?_
    refine s_nil (r_false ?_)
    refine q_next ?_
    refine k_ret ?_
    refine q_block_ret (q_seq_ret (q_loopF_ret (q_block_ret (q_seq_ret ?_))))
    refine ⟨.inr rfl, a_ret [] (by rw [results35]) ?_ ?_ ?_⟩ <;> simp [-List.map_set, -List.map_replicate, -List.reduceReplicate, -List.map_map, -List.map_drop, -List.map_take, num, bol, txt, w8, w16, w32, w64, lst, cls, rowO, boxO, List.take_of_length_le, Wr.cellsL_len, wA, Wr.k_mk, Wr.n_mk, Wr.s_mk, Wr.l_mk, Wr.cellsL, Wr.z_eq, rnT, ftT, hq]
   ·have hok : rnOk l (0) := ⟨by rw [he]; exact g, fun h => absurd h (by omega)⟩
    refine a_opd ?_
    refine a_calld [] false (by have h := rnright_good Γ r; rw [rnB_t g] at h; exact h) ?_
    refine a_opd ?_
    refine a_opd ?_
    refine a_god ?_
    refine a_god ?_
    refine a_god ?_
    refine a_nod ?_
    refine a_nod ?_
    refine a_nod ?_
    refine a_nod ?_
    refine a_nod ?_
    refine a_nod ?_
    refine a_nod ?_
    refine a_nod ?_
    try simp only [hq0]
    refine a_nod ?_
    refine a_nod ?_
    refine a_nod ?_
    refine a_nod ?_
    refine a_nod ?_
    refine a_nod ?_
    refine a_nod ?_
    refine a_nod ?_
    refine a_nod ?_
    refine a_nod ?_
    try simp only [hq0]
    refine a_nod ?_
    refine a_nod ?_
    refine a_nod ?_
    refine a_nod ?_
    refine a_nod ?_
    refine a_nod ?_
    refine a_nod ?_
    refine a_nod ?_
    refine a_nod ?_
    refine a_nod ?_
    try simp only [hq0]
    refine a_nod ?_
    refine a_nod ?_
    refine a_nod ?_
    refine a_nod ?_
    refine a_god ?_
    refine a_opd ?_
    refine s_nil (r_true (by kernel_rfl) ?_)
    refine q_next ?_
    refine a_false ?_
    refine k_skip ?_
    refine q_block (q_next ?_)
    refine k_region rfl ?_
    refine a_op ?_
    refine a_op ?_
    refine s_nil (r_false ?_)
    refine q_loopF (0 + 1) (a_le ?_) ?_ ?_
    ·refine le_same ?_ ?_ ?_ <;> simp [-List.map_set, -List.map_replicate, -List.reduceReplicate, -List.map_map, -List.map_drop, -List.map_take, num, bol, txt, w8, w16, w32, w64, lst, cls, rowO, boxO, List.take_of_length_le, Wr.cellsL_len, wA, Wr.k_mk, Wr.n_mk, Wr.s_mk, Wr.l_mk, Wr.cellsL, Wr.z_eq, rnT, ftT]
    ·exact ⟨by omega, fun j hj => by rcases Nat.lt_or_eq_of_le (Nat.le_of_lt_succ hj) with e | e; exact hI j e; (subst e; exact hok)⟩
    ·(first | omega | (simp only []; omega))
   ·rw [Nat.add_sub_cancel] at g2
    obtain ⟨q, hq0⟩ : ∃ q, l.getD k default = q := ⟨_, rfl⟩
    simp only [hq0] at g2
    have hpl := g.2.2.2.2
    have hqp := (hI k (by omega)).1
    rw [hq0] at hqp
    have hq1 := hqp.2.2.1
    have hq2 := hqp.2.2.2.1
    have hq3 := hqp.2.2.2.2
    have hq : mrB l = false := mrB_no (i := k + 1) (by omega) (fun h => by have h2 := (h.2 (by omega)).1; rw [he, Nat.add_sub_cancel, hq0] at h2; omega)
    refine a_opd ?_
    refine a_calld [] false (by have h := rnright_good Γ r; rw [rnB_t g] at h; exact h) ?_
    refine a_opd ?_
    refine a_opd ?_
    refine a_god ?_
    refine a_god ?_
    refine a_god ?_
    refine a_god ?_
    refine a_god ?_
    refine a_god ?_
    refine a_god ?_
    refine a_god (hs := by (simp (disch := first | omega | (simp only [List.length_drop, List.length_take, List.length_map, List.length_append, List.length_cons, List.length_nil, List.length_replicate, List.length_set] <;> omega) | (simp only [push_cast] <;> omega) | fail) only [push_cast, reduceCtorEq, Nat.reduceAdd, Nat.reduceSub, Nat.reduceMul, Nat.reduceEqDiff, Nat.reduceLT, Nat.reduceLeDiff, Nat.reduceMod, Nat.reduceDiv, Int.reduceLE, Int.reduceLT, Int.reduceEq, Int.reduceToNat, Int.reduceAdd, Int.reduceSub, Int.reduceMul, Int.reduceNeg, show ((k : Int) + 1 - 1) = k from by omega] <;> rfl)) ?_
    refine a_god ?_
    refine a_god ?_
    refine a_god ?_
    try simp only [hq0]
    refine a_god ?_
    refine a_god ?_
    refine a_nod ?_
    refine a_nod ?_
    refine a_nod ?_
    refine a_nod ?_
    refine a_nod ?_
    refine a_nod ?_
    refine a_nod ?_
    refine a_nod ?_
    try simp only [hq0]
    refine a_nod ?_
    refine a_nod ?_
    refine a_nod ?_
    refine a_nod ?_
    refine a_nod ?_
    refine a_nod ?_
    refine a_nod ?_
    refine a_nod ?_
    refine a_nod ?_
    refine a_nod ?_
    try simp only [hq0]
    refine a_nod ?_
    refine a_nod ?_
    refine a_nod ?_
    refine a_god ?_
    refine a_god ?_
    refine a_opd ?_
    refine s_nil (r_true (by kernel_rfl) ?_)
    refine q_next ?_
    refine a_true ?_
    refine k_seq ?_
    refine k_region rfl ?_
    refine a_op ?_
    refine s_nil (r_false ?_)
    refine q_next ?_
    refine k_ret ?_
    refine q_block_ret (q_seq_ret (q_loopF_ret (q_block_ret (q_seq_ret ?_))))
    refine ⟨.inr rfl, a_ret [] (by rw [results35]) ?_ ?_ ?_⟩ <;> simp [-List.map_set, -List.map_replicate, -List.reduceReplicate, -List.map_map, -List.map_drop, -List.map_take, num, bol, txt, w8, w16, w32, w64, lst, cls, rowO, boxO, List.take_of_length_le, Wr.cellsL_len, wA, Wr.k_mk, Wr.n_mk, Wr.s_mk, Wr.l_mk, Wr.cellsL, Wr.z_eq, rnT, ftT, hq]
   ·rw [Nat.add_sub_cancel] at g2
    obtain ⟨q, hq0⟩ : ∃ q, l.getD k default = q := ⟨_, rfl⟩
    simp only [hq0] at g2
    have hpl := g.2.2.2.2
    have hqp := (hI k (by omega)).1
    rw [hq0] at hqp
    have hq1 := hqp.2.2.1
    have hq2 := hqp.2.2.2.1
    have hq3 := hqp.2.2.2.2
    have hok : rnOk l (k + 1) := ⟨by rw [he]; exact g, fun _ => by rw [he, Nat.add_sub_cancel, hq0]; exact ⟨by omega, fun h => by omega⟩⟩
    refine a_opd ?_
    refine a_calld [] false (by have h := rnright_good Γ r; rw [rnB_t g] at h; exact h) ?_
    refine a_opd ?_
    refine a_opd ?_
    refine a_god ?_
    refine a_god ?_
    refine a_god ?_
    refine a_god ?_
    refine a_god ?_
    refine a_god ?_
    refine a_god ?_
    refine a_god (hs := by (simp (disch := first | omega | (simp only [List.length_drop, List.length_take, List.length_map, List.length_append, List.length_cons, List.length_nil, List.length_replicate, List.length_set] <;> omega) | (simp only [push_cast] <;> omega) | fail) only [push_cast, reduceCtorEq, Nat.reduceAdd, Nat.reduceSub, Nat.reduceMul, Nat.reduceEqDiff, Nat.reduceLT, Nat.reduceLeDiff, Nat.reduceMod, Nat.reduceDiv, Int.reduceLE, Int.reduceLT, Int.reduceEq, Int.reduceToNat, Int.reduceAdd, Int.reduceSub, Int.reduceMul, Int.reduceNeg, show ((k : Int) + 1 - 1) = k from by omega] <;> rfl)) ?_
    refine a_god ?_
    refine a_god ?_
    refine a_god ?_
    try simp only [hq0]
    refine a_god ?_
    refine a_god ?_
    refine a_god ?_
    refine a_god ?_
    refine a_god ?_
    refine a_god ?_
    refine a_god (hs := by (simp (disch := first | omega | (simp only [List.length_drop, List.length_take, List.length_map, List.length_append, List.length_cons, List.length_nil, List.length_replicate, List.length_set] <;> omega) | (simp only [push_cast] <;> omega) | fail) only [push_cast, reduceCtorEq, Nat.reduceAdd, Nat.reduceSub, Nat.reduceMul, Nat.reduceEqDiff, Nat.reduceLT, Nat.reduceLeDiff, Nat.reduceMod, Nat.reduceDiv, Int.reduceLE, Int.reduceLT, Int.reduceEq, Int.reduceToNat, Int.reduceAdd, Int.reduceSub, Int.reduceMul, Int.reduceNeg, show ((k : Int) + 1 - 1) = k from by omega] <;> rfl)) ?_
    refine a_god ?_
    refine a_god ?_
    refine a_god ?_
    try simp only [hq0]
    refine a_god ?_
    refine a_god ?_
    refine a_nod ?_
    refine a_nod ?_
    refine a_nod ?_
    refine a_nod ?_
    refine a_nod ?_
    refine a_nod ?_
    refine a_nod ?_
    refine a_nod ?_
    try simp only [hq0]
    refine a_nod ?_
    refine a_nod ?_
    refine a_god ?_
    refine a_god ?_
    refine a_god ?_
    refine a_opd ?_
    refine s_nil (r_true (by kernel_rfl) ?_)
    refine q_next ?_
    refine a_false ?_
    refine k_skip ?_
    refine q_block (q_next ?_)
    refine k_region rfl ?_
    refine a_op ?_
    refine a_op ?_
    refine s_nil (r_false ?_)
    refine q_loopF (k + 1 + 1) (a_le ?_) ?_ ?_
    ·refine le_same ?_ ?_ ?_ <;> simp [-List.map_set, -List.map_replicate, -List.reduceReplicate, -List.map_map, -List.map_drop, -List.map_take, num, bol, txt, w8, w16, w32, w64, lst, cls, rowO, boxO, List.take_of_length_le, Wr.cellsL_len, wA, Wr.k_mk, Wr.n_mk, Wr.s_mk, Wr.l_mk, Wr.cellsL, Wr.z_eq, rnT, ftT]
    ·exact ⟨by omega, fun j hj => by rcases Nat.lt_or_eq_of_le (Nat.le_of_lt_succ hj) with e | e; exact hI j e; (subst e; exact hok)⟩
    ·(first | omega | (simp only []; omega))
   ·rw [Nat.add_sub_cancel] at g2 g3
    obtain ⟨q, hq0⟩ : ∃ q, l.getD k default = q := ⟨_, rfl⟩
    simp only [hq0] at g2 g3
    have hpl := g.2.2.2.2
    have hqp := (hI k (by omega)).1
    rw [hq0] at hqp
    have hq1 := hqp.2.2.1
    have hq2 := hqp.2.2.2.1
    have hq3 := hqp.2.2.2.2
    have hq : mrB l = false := mrB_no (i := k + 1) (by omega) (fun h => by have h2 := (h.2 (by omega)).2 (by rw [he, Nat.add_sub_cancel, hq0]; exact g2); rw [he, Nat.add_sub_cancel, hq0] at h2; omega)
    refine a_opd ?_
    refine a_calld [] false (by have h := rnright_good Γ r; rw [rnB_t g] at h; exact h) ?_
    refine a_opd ?_
    refine a_opd ?_
    refine a_god ?_
    refine a_god ?_
    refine a_god ?_
    refine a_god ?_
    refine a_god ?_
    refine a_god ?_
    refine a_god ?_
    refine a_god (hs := by (simp (disch := first | omega | (simp only [List.length_drop, List.length_take, List.length_map, List.length_append, List.length_cons, List.length_nil, List.length_replicate, List.length_set] <;> omega) | (simp only [push_cast] <;> omega) | fail) only [push_cast, reduceCtorEq, Nat.reduceAdd, Nat.reduceSub, Nat.reduceMul, Nat.reduceEqDiff, Nat.reduceLT, Nat.reduceLeDiff, Nat.reduceMod, Nat.reduceDiv, Int.reduceLE, Int.reduceLT, Int.reduceEq, Int.reduceToNat, Int.reduceAdd, Int.reduceSub, Int.reduceMul, Int.reduceNeg, show ((k : Int) + 1 - 1) = k from by omega] <;> rfl)) ?_
    refine a_god ?_
    refine a_god ?_
    refine a_god ?_
    try simp only [hq0]
    refine a_god ?_
    refine a_god ?_
    refine a_god ?_
    refine a_god ?_
    refine a_god ?_
    refine a_god ?_
    refine a_god (hs := by (simp (disch := first | omega | (simp only [List.length_drop, List.length_take, List.length_map, List.length_append, List.length_cons, List.length_nil, List.length_replicate, List.length_set] <;> omega) | (simp only [push_cast] <;> omega) | fail) only [push_cast, reduceCtorEq, Nat.reduceAdd, Nat.reduceSub, Nat.reduceMul, Nat.reduceEqDiff, Nat.reduceLT, Nat.reduceLeDiff, Nat.reduceMod, Nat.reduceDiv, Int.reduceLE, Int.reduceLT, Int.reduceEq, Int.reduceToNat, Int.reduceAdd, Int.reduceSub, Int.reduceMul, Int.reduceNeg, show ((k : Int) + 1 - 1) = k from by omega] <;> rfl)) ?_
    refine a_god ?_
    refine a_god ?_
    refine a_god ?_
    try simp only [hq0]
    refine a_god ?_
    refine a_god ?_
    refine a_god ?_
    refine a_god ?_
    refine a_god ?_
    refine a_god ?_
    refine a_god (hs := by (simp (disch := first | omega | (simp only [List.length_drop, List.length_take, List.length_map, List.length_append, List.length_cons, List.length_nil, List.length_replicate, List.length_set] <;> omega) | (simp only [push_cast] <;> omega) | fail) only [push_cast, reduceCtorEq, Nat.reduceAdd, Nat.reduceSub, Nat.reduceMul, Nat.reduceEqDiff, Nat.reduceLT, Nat.reduceLeDiff, Nat.reduceMod, Nat.reduceDiv, Int.reduceLE, Int.reduceLT, Int.reduceEq, Int.reduceToNat, Int.reduceAdd, Int.reduceSub, Int.reduceMul, Int.reduceNeg, show ((k : Int) + 1 - 1) = k from by omega] <;> rfl)) ?_
    refine a_god ?_
    refine a_god ?_
    refine a_god ?_
    try simp only [hq0]
    refine a_god ?_
    refine a_god ?_
    refine a_god ?_
    refine a_god ?_
    refine a_god ?_
    refine a_opd ?_
    refine s_nil (r_true (by kernel_rfl) ?_)
    refine q_next ?_
    refine a_true ?_
    refine k_seq ?_
    refine k_region rfl ?_
    refine a_op ?_
    refine s_nil (r_false ?_)
    refine q_next ?_
    refine k_ret ?_
    refine q_block_ret (q_seq_ret (q_loopF_ret (q_block_ret (q_seq_ret ?_))))
    refine ⟨.inr rfl, a_ret [] (by rw [results35]) ?_ ?_ ?_⟩ <;> simp [-List.map_set, -List.map_replicate, -List.reduceReplicate, -List.map_map, -List.map_drop, -List.map_take, num, bol, txt, w8, w16, w32, w64, lst, cls, rowO, boxO, List.take_of_length_le, Wr.cellsL_len, wA, Wr.k_mk, Wr.n_mk, Wr.s_mk, Wr.l_mk, Wr.cellsL, Wr.z_eq, rnT, ftT, hq]
   ·rw [Nat.add_sub_cancel] at g2 g3
    obtain ⟨q, hq0⟩ : ∃ q, l.getD k default = q := ⟨_, rfl⟩
    simp only [hq0] at g2 g3
    have hpl := g.2.2.2.2
    have hqp := (hI k (by omega)).1
    rw [hq0] at hqp
    have hq1 := hqp.2.2.1
    have hq2 := hqp.2.2.2.1
    have hq3 := hqp.2.2.2.2
    have hok : rnOk l (k + 1) := ⟨by rw [he]; exact g, fun _ => by rw [he, Nat.add_sub_cancel, hq0]; exact ⟨by omega, fun _ => g3⟩⟩
    refine a_opd ?_
    refine a_calld [] false (by have h := rnright_good Γ r; rw [rnB_t g] at h; exact h) ?_
    refine a_opd ?_
    refine a_opd ?_
    refine a_god ?_
    refine a_god ?_
    refine a_god ?_
    refine a_god ?_
    refine a_god ?_
    refine a_god ?_
    refine a_god ?_
    refine a_god (hs := by (simp (disch := first | omega | (simp only [List.length_drop, List.length_take, List.length_map, List.length_append, List.length_cons, List.length_nil, List.length_replicate, List.length_set] <;> omega) | (simp only [push_cast] <;> omega) | fail) only [push_cast, reduceCtorEq, Nat.reduceAdd, Nat.reduceSub, Nat.reduceMul, Nat.reduceEqDiff, Nat.reduceLT, Nat.reduceLeDiff, Nat.reduceMod, Nat.reduceDiv, Int.reduceLE, Int.reduceLT, Int.reduceEq, Int.reduceToNat, Int.reduceAdd, Int.reduceSub, Int.reduceMul, Int.reduceNeg, show ((k : Int) + 1 - 1) = k from by omega] <;> rfl)) ?_
    refine a_god ?_
    refine a_god ?_
    refine a_god ?_
    try simp only [hq0]
    refine a_god ?_
    refine a_god ?_
    refine a_god ?_
    refine a_god ?_
    refine a_god ?_
    refine a_god ?_
    refine a_god (hs := by (simp (disch := first | omega | (simp only [List.length_drop, List.length_take, List.length_map, List.length_append, List.length_cons, List.length_nil, List.length_replicate, List.length_set] <;> omega) | (simp only [push_cast] <;> omega) | fail) only [push_cast, reduceCtorEq, Nat.reduceAdd, Nat.reduceSub, Nat.reduceMul, Nat.reduceEqDiff, Nat.reduceLT, Nat.reduceLeDiff, Nat.reduceMod, Nat.reduceDiv, Int.reduceLE, Int.reduceLT, Int.reduceEq, Int.reduceToNat, Int.reduceAdd, Int.reduceSub, Int.reduceMul, Int.reduceNeg, show ((k : Int) + 1 - 1) = k from by omega] <;> rfl)) ?_
    refine a_god ?_
    refine a_god ?_
    refine a_god ?_
    try simp only [hq0]
    refine a_god ?_
    refine a_god ?_
    refine a_god ?_
    refine a_god ?_
    refine a_god ?_
    refine a_god ?_
    refine a_god (hs := by (simp (disch := first | omega | (simp only [List.length_drop, List.length_take, List.length_map, List.length_append, List.length_cons, List.length_nil, List.length_replicate, List.length_set] <;> omega) | (simp only [push_cast] <;> omega) | fail) only [push_cast, reduceCtorEq, Nat.reduceAdd, Nat.reduceSub, Nat.reduceMul, Nat.reduceEqDiff, Nat.reduceLT, Nat.reduceLeDiff, Nat.reduceMod, Nat.reduceDiv, Int.reduceLE, Int.reduceLT, Int.reduceEq, Int.reduceToNat, Int.reduceAdd, Int.reduceSub, Int.reduceMul, Int.reduceNeg, show ((k : Int) + 1 - 1) = k from by omega] <;> rfl)) ?_
    refine a_god ?_
    refine a_god ?_
    refine a_god ?_
    try simp only [hq0]
    refine a_god ?_
    refine a_god ?_
    refine a_god ?_
    refine a_god ?_
    refine a_god ?_
    refine a_opd ?_
    refine s_nil (r_true (by kernel_rfl) ?_)
    refine q_next ?_
    refine a_false ?_
    refine k_skip ?_
    refine q_block (q_next ?_)
    refine k_region rfl ?_
    refine a_op ?_
    refine a_op ?_
    refine s_nil (r_false ?_)
    refine q_loopF (k + 1 + 1) (a_le ?_) ?_ ?_
    ·refine le_same ?_ ?_ ?_ <;> simp [-List.map_set, -List.map_replicate, -List.reduceReplicate, -List.map_map, -List.map_drop, -List.map_take, num, bol, txt, w8, w16, w32, w64, lst, cls, rowO, boxO, List.take_of_length_le, Wr.cellsL_len, wA, Wr.k_mk, Wr.n_mk, Wr.s_mk, Wr.l_mk, Wr.cellsL, Wr.z_eq, rnT, ftT]
    ·exact ⟨by omega, fun j hj => by rcases Nat.lt_or_eq_of_le (Nat.le_of_lt_succ hj) with e | e; exact hI j e; (subst e; exact hok)⟩
    ·(first | omega | (simp only []; omega))
  ·(try simp only [Bool.and_eq_true, Bool.or_eq_true, Bool.or_eq_false_iff, Bool.not_eq_true', Bool.not_eq_false', dec_t, dec_f, Bool.and_eq_false_imp, beq_iff_eq, beq_eq_false_iff_ne, ne_eq] at hc0)
   refine k_exit ?_
   refine q_seq_exit (q_loopF_exit (q_block_exit (q_next ?_)))
   refine k_seq ?_
   refine k_region rfl ?_
   have hq := mrB_yes (l := l) (fun j hj => hI j (by omega))
   refine a_op ?_
   refine s_nil (r_false ?_)
   refine q_next ?_
   refine k_ret ?_
   refine ⟨.inr rfl, a_ret [] (by rw [results35]) ?_ ?_ ?_⟩ <;> simp [-List.map_set, -List.map_replicate, -List.reduceReplicate, -List.map_map, -List.map_drop, -List.map_take, num, bol, txt, w8, w16, w32, w64, lst, cls, rowO, boxO, List.take_of_length_le, Wr.cellsL_len, wA, Wr.k_mk, Wr.n_mk, Wr.s_mk, Wr.l_mk, Wr.cellsL, Wr.z_eq, rnT, ftT, hq]

end Go.Proofs.Tryd
