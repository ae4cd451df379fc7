/- Contracts of this program's functions. -/
import Derived.Test.YtppicdhlpdhoiaaDoorSSN1
import Derived.Test.YtppicdhlpdhoiaaDoorSSN5
import Derived.Test.YtppicdhlpdhoiaaDoorSSN6
import Derived.Test.YtppicdhlpdhoiaaDoorOtE
set_option maxHeartbeats 4000000
set_option maxRecDepth 100000
set_option linter.unusedVariables false
set_option linter.unusedSimpArgs false
namespace Go.Proofs.Tryd
open Go Go.Ot
attribute [local irreducible] wpK wpS seqK blockK loopF regK meetK OpSpec Le
theorem sa_may (Γ : Gl) (s : Sa) (hs1 : s.seen.length ≤ 9223372036854775807) (hs2 : s.fs.length ≤ 9223372036854775807) : Go.Ot.Good Γ prog 17 [.agg [.t (.sl s.seen.length (s.seen.flatMap rnT)), .t (.sl s.fs.length (s.fs.flatMap ftT))]] [] (.t (bol (saB s))) [] [] := by
 refine a_body F.mix func17 (by rfl) ntmps17 ?_
 refine k_seq ?_
 refine k_region rfl ?_
 refine a_op ?_
 refine a_op ?_
 refine s_nil (r_false ?_)
 refine q_next ?_
 refine k_seq ?_
 refine k_seq ?_
 refine k_region rfl ?_
 rcases hm : mrB s.seen with _ | _
 rotate_left 1
 rcases (show 400 < s.fs.length ∨ s.fs.length ≤ 400 by omega) with h4 | h4
 rotate_right 1
 ·have hq : saB s = false := saB_f (fun h => by have h1 := h.1.1; have h2 := h.1.2; first | omega | (rw [hm] at h1; cases h1))
  refine a_op ?_
  refine a_op ?_
  refine a_call [] false ((by have h := mayr_good Γ s.seen hs1; rw [hm] at h; exact h)) ?_
  refine a_op ?_
  refine a_op ?_
  refine a_no ?_
  refine a_no ?_
  refine a_no ?_
  refine a_no ?_
  refine a_op ?_
  refine s_nil (r_false ?_)
  refine q_next ?_
  refine a_true ?_
  refine k_seq ?_
  refine k_region rfl ?_
  refine a_op ?_
  refine s_nil (r_false ?_)
  refine q_next ?_
  refine k_ret ?_
  refine q_seq_ret ?_
  refine ⟨.inr rfl, a_ret [] (by rw [results17]) ?_ ?_ ?_⟩ <;> simp [-List.map_set, -List.map_replicate, -List.reduceReplicate, -List.map_map, -List.map_drop, -List.map_take, num, bol, txt, w8, w16, w32, w64, lst, cls, rowO, boxO, List.take_of_length_le, Wr.cellsL_len, wA, Wr.k_mk, Wr.n_mk, Wr.s_mk, Wr.l_mk, Wr.cellsL, Wr.z_eq, rnT, ftT, hq]
 ·have hq : saB s = false := saB_f (fun h => by have h1 := h.1.1; have h2 := h.1.2; first | omega | (rw [hm] at h1; cases h1))
  refine a_op ?_
  refine a_op ?_
  refine a_call [] false ((by have h := mayr_good Γ s.seen hs1; rw [hm] at h; exact h)) ?_
  refine a_op ?_
  refine a_op ?_
  refine a_go ?_
  refine a_go ?_
  refine a_go ?_
  refine a_go ?_
  refine a_op ?_
  refine s_nil (r_false ?_)
  refine q_next ?_
  refine a_true ?_
  refine k_seq ?_
  refine k_region rfl ?_
  refine a_op ?_
  refine s_nil (r_false ?_)
  refine q_next ?_
  refine k_ret ?_
  refine q_seq_ret ?_
  refine ⟨.inr rfl, a_ret [] (by rw [results17]) ?_ ?_ ?_⟩ <;> simp [-List.map_set, -List.map_replicate, -List.reduceReplicate, -List.map_map, -List.map_drop, -List.map_take, num, bol, txt, w8, w16, w32, w64, lst, cls, rowO, boxO, List.take_of_length_le, Wr.cellsL_len, wA, Wr.k_mk, Wr.n_mk, Wr.s_mk, Wr.l_mk, Wr.cellsL, Wr.z_eq, rnT, ftT, hq]
 ·skip
  refine a_op ?_
  refine a_op ?_
  refine a_call [] false ((by have h := mayr_good Γ s.seen hs1; rw [hm] at h; exact h)) ?_
  refine a_op ?_
  refine a_op ?_
  refine a_go ?_
  refine a_go ?_
  refine a_go ?_
  refine a_go ?_
  refine a_op ?_
  refine s_nil (r_false ?_)
  refine q_next ?_
  refine a_false ?_
  refine k_skip ?_
  refine q_next ?_
  refine k_seq ?_
  refine k_seq ?_
  refine k_region rfl ?_
  iterate 4 refine a_op ?_
  refine s_nil (r_false ?_)
  refine q_next ?_
  refine k_block ?_
  refine k_loopF (fun sl L (i : Nat) => ⟨setAll (setBad sl [0, 2, 3, 4, 5, 6, 7, 8, 9, 10, 11, 12, 13, 14, 15, 19, 20, 21, 22, 23, 24, 25, 26, 27, 28, 29, 30, 31, 32, 33, 34, 35, 36, 37, 38, 39, 40, 41, 42, 43, 44, 45, 46, 47, 48, 49, 50, 51]) [(18, .t (num i))], Go.Ot.look (L)⟩) (fun i => i ≤ s.fs.length ∧ ∀ j, j < i → faOk s j) (fun i => s.fs.length - i) (0) (a_le ?_) ?_ ?_
  ·refine le_of [(.r 0 0 0, .r 0 0 0)] ?_ ?_ ?_ <;> simp [-List.map_set, -List.map_replicate, -List.reduceReplicate, -List.map_map, -List.map_drop, -List.map_take, num, bol, txt, w8, w16, w32, w64, lst, cls, rowO, boxO, List.take_of_length_le, Wr.cellsL_len, wA, Wr.k_mk, Wr.n_mk, Wr.s_mk, Wr.l_mk, Wr.cellsL, Wr.z_eq, rnT, ftT]
  ·exact ⟨Nat.zero_le _, fun j hj => by omega⟩
  ·rintro i ⟨hi, hI⟩
   refine a_st ?_
   refine k_seq ?_
   refine k_region rfl ?_
   refine a_op ?_
   refine s_nil (r_false ?_)
   refine q_next ?_
   refine k_seq ?_
   refine a_if (fun hc1 => ?_) (fun hc1 => ?_)
   ·(try simp only [Bool.and_eq_true, Bool.or_eq_true, Bool.or_eq_false_iff, Bool.not_eq_true', Bool.not_eq_false', dec_t, dec_f, Bool.and_eq_false_imp, beq_iff_eq, beq_eq_false_iff_ne, ne_eq] at hc1)
    refine k_skip ?_
    refine q_next ?_
    refine k_seq ?_
    refine k_block ?_
    refine k_seq ?_
    refine k_region rfl ?_
    iterate 3 refine a_op ?_
    obtain ⟨f, he⟩ : ∃ f, s.fs.getD i default = f := ⟨_, rfl⟩
    simp only [he]
    iterate 3 refine a_op ?_
    refine s_nil (r_false ?_)
    refine q_next ?_
    refine k_seq ?_
    refine k_region rfl ?_
    have h5 : (¬ ftP f) ∨ (ftP f ∧ hasB s.seen f.dev f.n = false) ∨ ((ftP f ∧ hasB s.seen f.dev f.n = true) ∧ i = 0) ∨ ((ftP f ∧ hasB s.seen f.dev f.n = true) ∧ (∃ k, i = k + 1) ∧ cmF (s.fs.getD (i - 1) default) f < 0) ∨ ((ftP f ∧ hasB s.seen f.dev f.n = true) ∧ (∃ k, i = k + 1) ∧ 0 ≤ cmF (s.fs.getD (i - 1) default) f) := by
     by_cases g : ftP f
     ·rcases g2 : hasB s.seen f.dev f.n with _ | _
      ·exact .inr (.inl ⟨g, rfl⟩)
      ·have : i = 0 ∨ ∃ k, i = k + 1 := by cases i with | zero => exact .inl rfl | succ k => exact .inr ⟨k, rfl⟩
       rcases this with h | h
       ·exact .inr (.inr (.inl ⟨⟨g, rfl⟩, h⟩))
       ·rcases (show cmF (s.fs.getD (i - 1) default) f < 0 ∨ 0 ≤ cmF (s.fs.getD (i - 1) default) f by omega) with h2 | h2
        ·exact .inr (.inr (.inr (.inl ⟨⟨g, rfl⟩, h, h2⟩)))
        ·exact .inr (.inr (.inr (.inr ⟨⟨g, rfl⟩, h, h2⟩)))
     ·exact .inl g
    rcases h5 with g | ⟨g, g2⟩ | ⟨⟨g, g2⟩, rfl⟩ | ⟨⟨g, g2⟩, ⟨k, rfl⟩, g3⟩ | ⟨⟨g, g2⟩, ⟨k, rfl⟩, g3⟩
    ·have hq : saB s = false := saB_f (fun h => by have h := h.2 (i) (by omega); have h1 := h.1; rw [he] at h1; exact g h1)
     refine a_opd ?_
     refine a_calld [] false (by have h := rightd_good Γ f; rw [ftB_f g] at h; exact h) ?_
     refine a_opd ?_
     refine a_opd ?_
     refine a_nod ?_
     refine a_nod ?_
     refine a_nod ?_
     refine a_nod ?_
     refine a_nod ?_
     refine a_nod ?_
     refine a_opd ?_
     refine a_opd ?_
     refine a_nod ?_
     refine a_nod ?_
     refine a_nod ?_
     refine a_nod ?_
     refine a_nod ?_
     refine a_nod ?_
     refine a_nod ?_
     refine a_nod ?_
     refine a_nod ?_
     refine a_nod ?_
     try simp only [hq0]
     refine a_nod ?_
     refine a_nod ?_
     refine a_nod ?_
     refine a_nod ?_
     refine a_nod ?_
     refine a_opd ?_
     refine s_nil (r_true (by kernel_rfl) ?_)
     refine q_next ?_
     refine a_true ?_
     refine k_seq ?_
     refine k_region rfl ?_
     refine a_op ?_
     refine s_nil (r_false ?_)
     refine q_next ?_
     refine k_ret ?_
     refine q_block_ret (q_seq_ret (q_loopF_ret (q_block_ret (q_seq_ret ?_))))
     refine ⟨.inr rfl, a_ret [] (by rw [results17]) ?_ ?_ ?_⟩ <;> simp [-List.map_set, -List.map_replicate, -List.reduceReplicate, -List.map_map, -List.map_drop, -List.map_take, num, bol, txt, w8, w16, w32, w64, lst, cls, rowO, boxO, List.take_of_length_le, Wr.cellsL_len, wA, Wr.k_mk, Wr.n_mk, Wr.s_mk, Wr.l_mk, Wr.cellsL, Wr.z_eq, rnT, ftT, hq]
    ·have hq : saB s = false := saB_f (fun h => by have h := h.2 (i) (by omega); have h1 := h.2.1; rw [he, g2] at h1; cases h1)
     refine a_opd ?_
     refine a_calld [] false (by have h := rightd_good Γ f; rw [ftB_t g] at h; exact h) ?_
     refine a_opd ?_
     refine a_opd ?_
     refine a_god ?_
     refine a_god ?_
     refine a_god ?_
     refine a_god ?_
     refine a_callgod [] false (by have h := has_good Γ s.seen hs1 f.dev f.n; rw [g2] at h; exact h) ?_
     refine a_god ?_
     refine a_opd ?_
     refine a_opd ?_
     refine a_nod ?_
     refine a_nod ?_
     refine a_nod ?_
     refine a_nod ?_
     refine a_nod ?_
     refine a_nod ?_
     refine a_nod ?_
     refine a_nod ?_
     refine a_nod ?_
     refine a_nod ?_
     try simp only [hq0]
     refine a_nod ?_
     refine a_nod ?_
     refine a_nod ?_
     refine a_nod ?_
     refine a_nod ?_
     refine a_opd ?_
     refine s_nil (r_true (by kernel_rfl) ?_)
     refine q_next ?_
     refine a_true ?_
     refine k_seq ?_
     refine k_region rfl ?_
     refine a_op ?_
     refine s_nil (r_false ?_)
     refine q_next ?_
     refine k_ret ?_
     refine q_block_ret (q_seq_ret (q_loopF_ret (q_block_ret (q_seq_ret ?_))))
     refine ⟨.inr rfl, a_ret [] (by rw [results17]) ?_ ?_ ?_⟩ <;> simp [-List.map_set, -List.map_replicate, -List.reduceReplicate, -List.map_map, -List.map_drop, -List.map_take, num, bol, txt, w8, w16, w32, w64, lst, cls, rowO, boxO, List.take_of_length_le, Wr.cellsL_len, wA, Wr.k_mk, Wr.n_mk, Wr.s_mk, Wr.l_mk, Wr.cellsL, Wr.z_eq, rnT, ftT, hq]
    ·have hok : faOk s (0) := ⟨by rw [he]; exact g, by rw [he]; exact g2, fun h => absurd h (by omega)⟩
     refine a_opd ?_
     refine a_calld [] false (by have h := rightd_good Γ f; rw [ftB_t g] at h; exact h) ?_
     refine a_opd ?_
     refine a_opd ?_
     refine a_god ?_
     refine a_god ?_
     refine a_god ?_
     refine a_god ?_
     refine a_callgod [] false (by have h := has_good Γ s.seen hs1 f.dev f.n; rw [g2] at h; exact h) ?_
     refine a_god ?_
     refine a_opd ?_
     refine a_opd ?_
     refine a_god ?_
     refine a_god ?_
     refine a_god ?_
     refine a_nod ?_
     refine a_nod ?_
     refine a_nod ?_
     refine a_nod ?_
     refine a_nod ?_
     refine a_nod ?_
     refine a_nod ?_
     try simp only [hq0]
     refine a_nod ?_
     refine a_nod ?_
     refine a_nod ?_
     refine a_nod ?_
     refine a_god ?_
     refine a_opd ?_
     refine s_nil (r_true (by kernel_rfl) ?_)
     refine q_next ?_
     refine a_false ?_
     refine k_skip ?_
     refine q_block (q_next ?_)
     refine k_region rfl ?_
     refine a_op ?_
     refine a_op ?_
     refine s_nil (r_false ?_)
     refine q_loopF (0 + 1) (a_le ?_) ?_ ?_
     ·refine le_of [(.r 0 0 0, .r 0 0 0)] ?_ ?_ ?_ <;> simp [-List.map_set, -List.map_replicate, -List.reduceReplicate, -List.map_map, -List.map_drop, -List.map_take, num, bol, txt, w8, w16, w32, w64, lst, cls, rowO, boxO, List.take_of_length_le, Wr.cellsL_len, wA, Wr.k_mk, Wr.n_mk, Wr.s_mk, Wr.l_mk, Wr.cellsL, Wr.z_eq, rnT, ftT]
     ·exact ⟨by omega, fun j hj => by rcases Nat.lt_or_eq_of_le (Nat.le_of_lt_succ hj) with e | e; exact hI j e; (subst e; exact hok)⟩
     ·(first | omega | (simp only []; omega))
    ·rw [Nat.add_sub_cancel] at g3
     obtain ⟨q, hq0⟩ : ∃ q, s.fs.getD k default = q := ⟨_, rfl⟩
     rw [hq0, cmF] at g3
     have hok : faOk s (k + 1) := ⟨by rw [he]; exact g, by rw [he]; exact g2, fun _ => by rw [he, Nat.add_sub_cancel, hq0, cmF]; exact g3⟩
     refine a_opd ?_
     refine a_calld [] false (by have h := rightd_good Γ f; rw [ftB_t g] at h; exact h) ?_
     refine a_opd ?_
     refine a_opd ?_
     refine a_god ?_
     refine a_god ?_
     refine a_god ?_
     refine a_god ?_
     refine a_callgod [] false (by have h := has_good Γ s.seen hs1 f.dev f.n; rw [g2] at h; exact h) ?_
     refine a_god ?_
     refine a_opd ?_
     refine a_opd ?_
     refine a_god ?_
     refine a_god ?_
     refine a_god ?_
     refine a_god ?_
     refine a_god ?_
     refine a_god ?_
     refine a_god ?_
     refine a_god (hs := by (simp (disch := first | omega | (simp only [List.length_drop, List.length_take, List.length_map, List.length_append, List.length_cons, List.length_nil, List.length_replicate, List.length_set] <;> omega) | (simp only [push_cast] <;> omega) | fail) only [push_cast, reduceCtorEq, Nat.reduceAdd, Nat.reduceSub, Nat.reduceMul, Nat.reduceEqDiff, Nat.reduceLT, Nat.reduceLeDiff, Nat.reduceMod, Nat.reduceDiv, Int.reduceLE, Int.reduceLT, Int.reduceEq, Int.reduceToNat, Int.reduceAdd, Int.reduceSub, Int.reduceMul, Int.reduceNeg, show ((k : Int) + 1 - 1) = k from by omega] <;> rfl)) ?_
     refine a_god ?_
     refine a_god ?_
     try simp only [hq0]
     refine a_god ?_
     refine a_god ?_
     refine a_callgod [] false (cmpd_good Γ q.dev q.n f.dev f.n) ?_
     refine a_god ?_
     refine a_god ?_
     refine a_opd ?_
     refine s_nil (r_true (by kernel_rfl) ?_)
     refine q_next ?_
     refine a_false ?_
     refine k_skip ?_
     refine q_block (q_next ?_)
     refine k_region rfl ?_
     refine a_op ?_
     refine a_op ?_
     refine s_nil (r_false ?_)
     refine q_loopF (k + 1 + 1) (a_le ?_) ?_ ?_
     ·refine le_of [(.r 0 0 0, .r 0 0 0)] ?_ ?_ ?_ <;> simp [-List.map_set, -List.map_replicate, -List.reduceReplicate, -List.map_map, -List.map_drop, -List.map_take, num, bol, txt, w8, w16, w32, w64, lst, cls, rowO, boxO, List.take_of_length_le, Wr.cellsL_len, wA, Wr.k_mk, Wr.n_mk, Wr.s_mk, Wr.l_mk, Wr.cellsL, Wr.z_eq, rnT, ftT]
     ·exact ⟨by omega, fun j hj => by rcases Nat.lt_or_eq_of_le (Nat.le_of_lt_succ hj) with e | e; exact hI j e; (subst e; exact hok)⟩
     ·(first | omega | (simp only []; omega))
    ·rw [Nat.add_sub_cancel] at g3
     obtain ⟨q, hq0⟩ : ∃ q, s.fs.getD k default = q := ⟨_, rfl⟩
     rw [hq0, cmF] at g3
     have hq : saB s = false := saB_f (fun h => by have h := h.2 (k + 1) (by omega); have h1 := h.2.2 (by omega); rw [he, Nat.add_sub_cancel, hq0, cmF] at h1; omega)
     refine a_opd ?_
     refine a_calld [] false (by have h := rightd_good Γ f; rw [ftB_t g] at h; exact h) ?_
     refine a_opd ?_
     refine a_opd ?_
     refine a_god ?_
     refine a_god ?_
     refine a_god ?_
     refine a_god ?_
     refine a_callgod [] false (by have h := has_good Γ s.seen hs1 f.dev f.n; rw [g2] at h; exact h) ?_
     refine a_god ?_
     refine a_opd ?_
     refine a_opd ?_
     refine a_god ?_
     refine a_god ?_
     refine a_god ?_
     refine a_god ?_
     refine a_god ?_
     refine a_god ?_
     refine a_god ?_
     refine a_god (hs := by (simp (disch := first | omega | (simp only [List.length_drop, List.length_take, List.length_map, List.length_append, List.length_cons, List.length_nil, List.length_replicate, List.length_set] <;> omega) | (simp only [push_cast] <;> omega) | fail) only [push_cast, reduceCtorEq, Nat.reduceAdd, Nat.reduceSub, Nat.reduceMul, Nat.reduceEqDiff, Nat.reduceLT, Nat.reduceLeDiff, Nat.reduceMod, Nat.reduceDiv, Int.reduceLE, Int.reduceLT, Int.reduceEq, Int.reduceToNat, Int.reduceAdd, Int.reduceSub, Int.reduceMul, Int.reduceNeg, show ((k : Int) + 1 - 1) = k from by omega] <;> rfl)) ?_
     refine a_god ?_
     refine a_god ?_
     try simp only [hq0]
     refine a_god ?_
     refine a_god ?_
     refine a_callgod [] false (cmpd_good Γ q.dev q.n f.dev f.n) ?_
     refine a_god ?_
     refine a_god ?_
     refine a_opd ?_
     refine s_nil (r_true (by kernel_rfl) ?_)
     refine q_next ?_
     refine a_true ?_
     refine k_seq ?_
     refine k_region rfl ?_
     refine a_op ?_
     refine s_nil (r_false ?_)
     refine q_next ?_
     refine k_ret ?_
     refine q_block_ret (q_seq_ret (q_loopF_ret (q_block_ret (q_seq_ret ?_))))
     refine ⟨.inr rfl, a_ret [] (by rw [results17]) ?_ ?_ ?_⟩ <;> simp [-List.map_set, -List.map_replicate, -List.reduceReplicate, -List.map_map, -List.map_drop, -List.map_take, num, bol, txt, w8, w16, w32, w64, lst, cls, rowO, boxO, List.take_of_length_le, Wr.cellsL_len, wA, Wr.k_mk, Wr.n_mk, Wr.s_mk, Wr.l_mk, Wr.cellsL, Wr.z_eq, rnT, ftT, hq]
   ·(try simp only [Bool.and_eq_true, Bool.or_eq_true, Bool.or_eq_false_iff, Bool.not_eq_true', Bool.not_eq_false', dec_t, dec_f, Bool.and_eq_false_imp, beq_iff_eq, beq_eq_false_iff_ne, ne_eq] at hc1)
    refine k_exit ?_
    refine q_seq_exit (q_loopF_exit (q_block_exit (q_next ?_)))
    refine k_seq ?_
    refine k_region rfl ?_
    have hq : saB s = true := saB_iff.2 ⟨⟨hm, h4⟩, fun j hj => hI j (by omega)⟩
    refine a_op ?_
    refine s_nil (r_false ?_)
    refine q_next ?_
    refine k_ret ?_
    refine ⟨.inr rfl, a_ret [] (by rw [results17]) ?_ ?_ ?_⟩ <;> simp [-List.map_set, -List.map_replicate, -List.reduceReplicate, -List.map_map, -List.map_drop, -List.map_take, num, bol, txt, w8, w16, w32, w64, lst, cls, rowO, boxO, List.take_of_length_le, Wr.cellsL_len, wA, Wr.k_mk, Wr.n_mk, Wr.s_mk, Wr.l_mk, Wr.cellsL, Wr.z_eq, rnT, ftT, hq]

end Go.Proofs.Tryd
